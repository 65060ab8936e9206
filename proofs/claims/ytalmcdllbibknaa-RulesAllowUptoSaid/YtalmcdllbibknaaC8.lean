/- Contracts: Needs, Allowed, Never. -/
import Derived.Test.YtalmcdllbibknaaC7
set_option linter.unusedVariables false
set_option linter.unusedSimpArgs false
namespace Go.Proofs.Ytalmcdllbibknaa.K
open Go Go.AM Go.Proofs
set_option maxRecDepth 8000
set_option maxHeartbeats 4000000

attribute [go_sem] inst

noncomputable def needsOf (n : Nat) (be : List (Int × Int)) (i : Int) : Nat := if 0 ≤ i ∧ i < n then nth (cloOf n be) i.toNat ||| pw i.toNat else 0

theorem needs_c (pl ar ty : PV) (c1 c2 c3 : Bool) (os : List PV) (ap be : List (Int × Int)) (i : Int) (h1 : pl.one = true) (h2 : ar.one = true) (h3 : ty.one = true) (hn : os.length ≤ 60) (hl : be.length ≤ 1048576) (hv : Val os.length be) :
    ACalls Try.prog 16 [.p (inst pl ar ty c1 c2 c3 os ap be), .p (.int .i64 i)] [] fun x H' => x = .p (.int .i64 (needsOf os.length be i : Nat)) ∧ H' = [] := by
  have hc := clo_of hv
  have hlen := hc.len
  refine acalls_pure (fn := Try.f16) Try.func16 rfl isF16 ?_
  simp (disch := omega) only [Try.f16, h1, h2, h3, go_sem, Nat.reduceAdd, Nat.reduceMul, Nat.reduceSub, Nat.reduceLeDiff, Nat.reduceLT, Nat.reduceEqDiff, Nat.reduceBEq, Nat.reduceBNe, Int.reduceNeg, Int.reduceToNat, Int.reduceLT, Int.reduceLE, Int.reduceEq, Int.reduceAdd, Int.reduceMul, Int.reduceSub, Nat.reduceSucc, Nat.reduceGT, Nat.reducePow, Int.reducePow, reduceCtorEq, ↓reduceIte]
  refine aguard_f (fun h => ?_) (fun h => ?_) <;> (try simp only [decide_eq_true_eq, decide_eq_false_iff_not] at h) <;> simp (disch := omega) only [h, go_sem, Nat.reduceAdd, Nat.reduceMul, Nat.reduceSub, Nat.reduceLeDiff, Nat.reduceLT, Nat.reduceEqDiff, Nat.reduceBEq, Nat.reduceBNe, Int.reduceNeg, Int.reduceToNat, Int.reduceLT, Int.reduceLE, Int.reduceEq, Int.reduceAdd, Int.reduceMul, Int.reduceSub, Nat.reduceSucc, Nat.reduceGT, Nat.reducePow, Int.reducePow, reduceCtorEq, ↓reduceIte]
  · have : ¬ 0 ≤ i := by omega
    simp [needsOf, this]
  · refine acond_b (fun h4 => ?_) (fun h4 => ?_) <;> (try simp only [decide_eq_true_eq, decide_eq_false_iff_not] at h4) <;> simp (disch := omega) only [h4, go_sem, Nat.reduceAdd, Nat.reduceMul, Nat.reduceSub, Nat.reduceLeDiff, Nat.reduceLT, Nat.reduceEqDiff, Nat.reduceBEq, Nat.reduceBNe, Int.reduceNeg, Int.reduceToNat, Int.reduceLT, Int.reduceLE, Int.reduceEq, Int.reduceAdd, Int.reduceMul, Int.reduceSub, Nat.reduceSucc, Nat.reduceGT, Nat.reducePow, Int.reducePow, reduceCtorEq, ↓reduceIte]
    · have : ¬ i < os.length := by omega
      simp [needsOf, this]
    · have g : 0 ≤ i ∧ i < os.length := by omega
      have g2 : i.toNat < os.length := by omega
      have b1 := hc.lt _ g2
      have b2 : pw os.length ≤ pw 62 := pw_le (by omega)
      have b3 := pw_62
      have b4 : pw i.toNat ≤ pw 62 := pw_le (by omega)
      refine awp_drawnF mixed (by kernel_rfl) ?_
      simp (disch := omega) only [go_sem, Nat.reduceAdd, Nat.reduceMul, Nat.reduceSub, Nat.reduceLeDiff, Nat.reduceLT, Nat.reduceEqDiff, Nat.reduceBEq, Nat.reduceBNe, Int.reduceNeg, Int.reduceToNat, Int.reduceLT, Int.reduceLE, Int.reduceEq, Int.reduceAdd, Int.reduceMul, Int.reduceSub, Nat.reduceSucc, Nat.reduceGT, Nat.reducePow, Int.reducePow, reduceCtorEq, ↓reduceIte]
      refine exq_call ((chains_c os.length be c3 hn hl hv).frozen (by simpa using hlen)) ?_
      simp (disch := omega) only [hlen, go_sem, Nat.reduceAdd, Nat.reduceMul, Nat.reduceSub, Nat.reduceLeDiff, Nat.reduceLT, Nat.reduceEqDiff, Nat.reduceBEq, Nat.reduceBNe, Int.reduceNeg, Int.reduceToNat, Int.reduceLT, Int.reduceLE, Int.reduceEq, Int.reduceAdd, Int.reduceMul, Int.reduceSub, Nat.reduceSucc, Nat.reduceGT, Nat.reducePow, Int.reducePow, reduceCtorEq, ↓reduceIte]
      simp [needsOf, g]
end Go.Proofs.Ytalmcdllbibknaa.K
