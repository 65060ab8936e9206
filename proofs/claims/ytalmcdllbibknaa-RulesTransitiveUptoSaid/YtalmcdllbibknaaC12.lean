/- Contracts: the law's examples. -/
import Derived.Test.YtalmcdllbibknaaC11
import Derived.Test.YtalmcdllbibknaaC5
set_option linter.unusedVariables false
set_option linter.unusedSimpArgs false
namespace Go.Proofs.Ytalmcdllbibknaa.K
open Go Go.AM Go.Proofs
set_option maxRecDepth 8000
set_option maxHeartbeats 8000000

theorem flats_eP : ∀ (l : List (Int × Int)), flats (l.map eP) = true
  | [] => rfl
  | p :: l => by simp [flats, flat, eP, flats_eP l]
theorem flats_eF : ∀ (l : List (Int × List UInt8)), flats (l.map eF) = true
  | [] => rfl
  | p :: l => by simp [flats, flat, eF, flats_eF l]

theorem val_ex : Val 3 [(2, 1), (1, 0)] := by intro p hp; simp at hp; rcases hp with rfl | rfl <;> simp
theorem val_three : Val 3 [(2, 1)] := by intro p hp; simp at hp; subst hp; simp
theorem clo_ex1 : cloOf 3 [(2, 1), (1, 0)] = [6, 4, 0] := cloOf_run val_ex 3 _ (by decide) (by decide)
theorem clo_three : cloOf 3 [(2, 1)] = [0, 4, 0] := cloOf_run val_three 3 _ (by decide) (by decide)

theorem chk_ex : chk 3 [(0, 1), (1, 0)] [(0, 3)] = [(6, [97, 112, 97, 114, 116, 32, 49]), (2, [98, 101, 102, 111, 114, 101, 32, 48])] := by
  have d0 : dec 0 = [48] := by rw [dec]; rfl
  have d1 : dec 1 = [49] := by rw [dec]; rfl
  simp [chk, fltU, hdr, List.range_succ, flt, okP, nth, atW, d0, d1]

@[go_sem] theorem elt_zero {x : PV} {l} : elt (x :: l) 0 = x := Eq.trans rfl rfl
@[go_sem] theorem elt_succ {x : PV} {l n} : elt (x :: l) (n + 1) = elt l n := Eq.trans rfl rfl
theorem clu_ex : clU (cloOf 3 [(2, 1), (1, 0)]) 3 = [(1, 0), (2, 0), (2, 1)] := by rw [clo_ex1]; decide

theorem al6 : allowed [ord0, ord0, ord0] [(0, 1)] [(2, 1)] 6 = 0 := by
  unfold allowed; rw [show ([ord0, ord0, ord0] : List Ord).length = 3 from rfl, clo_three]; decide +kernel
theorem al2 : allowed [ord0, ord0, ord0] [(0, 1)] [(2, 1)] 2 = 21 := by
  unfold allowed; rw [show ([ord0, ord0, ord0] : List Ord).length = 3 from rfl, clo_three]; decide +kernel
theorem al7 : allowed [ord0, ord0, ord0] [(0, 1)] [(2, 1)] 7 = 20 := by
  unfold allowed; rw [show ([ord0, ord0, ord0] : List Ord).length = 3 from rfl, clo_three]; decide +kernel
theorem al8 : allowed [ord0, ord0, ord0] [(0, 1)] [(2, 1)] 8 = 2 := by
  unfold allowed; rw [show ([ord0, ord0, ord0] : List Ord).length = 3 from rfl, clo_three]; decide +kernel
theorem ne1 : needsOf 3 [(2, 1)] 1 = 6 := by
  unfold needsOf; rw [clo_three]; decide +kernel

theorem ne0 : needsOf 3 [(2, 1)] 0 = 1 := by unfold needsOf; rw [clo_three]; decide +kernel
theorem ne2 : needsOf 3 [(2, 1)] 2 = 4 := by unfold needsOf; rw [clo_three]; decide +kernel
theorem al1 : allowed [ord0, ord0, ord0] [(0, 1)] [(2, 1)] 1 = 0 := by
  unfold allowed; rw [show ([ord0, ord0, ord0] : List Ord).length = 3 from rfl, clo_three]; decide +kernel
theorem al4 : allowed [ord0, ord0, ord0] [(0, 1)] [(2, 1)] 4 = 0 := by
  unfold allowed; rw [show ([ord0, ord0, ord0] : List Ord).length = 3 from rfl, clo_three]; decide +kernel
theorem nev0 : nev [ord0, ord0, ord0] [(0, 1)] [(2, 1)] 3 = 0 := by
  have e : ([ord0, ord0, ord0] : List Ord).length = 3 := rfl
  have h0 : bad [ord0, ord0, ord0] [(0, 1)] [(2, 1)] 0 = false := by rw [bad, e, show ((0 : Nat) : Int) = 0 from rfl, ne0, show ((1 : Nat) : Int) = 1 from rfl, al1]; decide
  have h1 : bad [ord0, ord0, ord0] [(0, 1)] [(2, 1)] 1 = false := by rw [bad, e, show ((1 : Nat) : Int) = 1 from rfl, ne1, show ((6 : Nat) : Int) = 6 from rfl, al6]; decide
  have h2 : bad [ord0, ord0, ord0] [(0, 1)] [(2, 1)] 2 = false := by rw [bad, e, show ((2 : Nat) : Int) = 2 from rfl, ne2, show ((4 : Nat) : Int) = 4 from rfl, al4]; decide
  simp [nev, h0, h1, h2]

theorem examples_c : ACalls Try.prog 9 [] [] fun x H' => x = .p (.bool true) ∧ H' = [] := by
  have hcl := closure_c 3 [(2, 1), (1, 0)] false (by decide) (by decide) val_ex
  rw [clu_ex] at hcl
  have hch := check_c 3 [(0, 1), (1, 0)] [(0, 3)] false false (by decide) (by decide)
  rw [chk_ex] at hch
  refine acalls_pure (fn := Try.f9) Try.func9 rfl isF9 ?_
  simp (disch := omega) only [Try.f9, go_sem, Nat.reduceAdd, Nat.reduceMul, Nat.reduceSub, Nat.reduceLeDiff, Nat.reduceLT, Nat.reduceEqDiff, Nat.reduceBEq, Nat.reduceBNe, Int.reduceNeg, Int.reduceToNat, Int.reduceLT, Int.reduceLE, Int.reduceEq, Int.reduceAdd, Int.reduceMul, Int.reduceSub, Nat.reduceSucc, Nat.reduceGT, Nat.reducePow, Int.reducePow, reduceCtorEq, ↓reduceIte]
  refine ACalls.viewF hcl (by simp [vws, vw, oat, eP]) (flats_eP _) ?_
  simp (disch := omega) only [go_sem, Nat.reduceAdd, Nat.reduceMul, Nat.reduceSub, Nat.reduceLeDiff, Nat.reduceLT, Nat.reduceEqDiff, Nat.reduceBEq, Nat.reduceBNe, Int.reduceNeg, Int.reduceToNat, Int.reduceLT, Int.reduceLE, Int.reduceEq, Int.reduceAdd, Int.reduceMul, Int.reduceSub, Nat.reduceSucc, Nat.reduceGT, Nat.reducePow, Int.reducePow, reduceCtorEq, ↓reduceIte]
  refine three_c.use ?_
  simp (disch := omega) only [go_sem, Nat.reduceAdd, Nat.reduceMul, Nat.reduceSub, Nat.reduceLeDiff, Nat.reduceLT, Nat.reduceEqDiff, Nat.reduceBEq, Nat.reduceBNe, Int.reduceNeg, Int.reduceToNat, Int.reduceLT, Int.reduceLE, Int.reduceEq, Int.reduceAdd, Int.reduceMul, Int.reduceSub, Nat.reduceSucc, Nat.reduceGT, Nat.reducePow, Int.reducePow, reduceCtorEq, ↓reduceIte]
  refine ACalls.viewF hch (by simp [vws, vw, oat, eP]) (flats_eF _) ?_
  simp (disch := omega) only [go_sem, Nat.reduceAdd, Nat.reduceMul, Nat.reduceSub, Nat.reduceLeDiff, Nat.reduceLT, Nat.reduceEqDiff, Nat.reduceBEq, Nat.reduceBNe, Int.reduceNeg, Int.reduceToNat, Int.reduceLT, Int.reduceLE, Int.reduceEq, Int.reduceAdd, Int.reduceMul, Int.reduceSub, Nat.reduceSucc, Nat.reduceGT, Nat.reducePow, Int.reducePow, reduceCtorEq, ↓reduceIte]
  refine ACalls.view (lpairs_c [(1, 0), (2, 0), (2, 1)] [(1, 0), (2, 0), (2, 1)] false false (by decide) (by decide)) (by simp [vws, vw, oat, eP]) (by rfl) ?_
  simp (disch := first | omega | (simp only [List.length_cons, List.length_nil, List.length_append, List.length_map, List.length_take, List.length_drop] <;> omega)) only [go_sem, Nat.reduceAdd, Nat.reduceMul, Nat.reduceSub, Nat.reduceLeDiff, Nat.reduceLT, Nat.reduceEqDiff, Nat.reduceBEq, Nat.reduceBNe, Int.reduceNeg, Int.reduceToNat, Int.reduceLT, Int.reduceLE, Int.reduceEq, Int.reduceAdd, Int.reduceMul, Int.reduceSub, Nat.reduceSucc, Nat.reduceGT, Nat.reducePow, Int.reducePow, reduceCtorEq, ↓reduceIte]
  have hal := fun s : Int => allowed_c (.list true []) (.list true []) (.list true []) false false false [ord0, ord0, ord0] [(0, 1)] [(2, 1)] s rfl rfl rfl (by decide) (by decide) (by decide) val_three
  have hne := needs_c (.list true []) (.list true []) (.list true []) false false false ([ord0, ord0, ord0].map eO) [(0, 1)] [(2, 1)] 1 rfl rfl rfl (by decide) (by decide) val_three
  have hnv := never_c (.list true []) (.list true []) (.list true []) false false false [ord0, ord0, ord0] [(0, 1)] [(2, 1)] rfl rfl rfl (by decide) (by decide) (by decide) val_three
  rw [show ([ord0, ord0, ord0].map eO).length = 3 from rfl, ne1] at hne
  rw [show ([ord0, ord0, ord0] : List Ord).length = 3 from rfl, nev0] at hnv
  refine (hal 6).use ?_
  simp (disch := first | omega | (simp only [List.length_cons, List.length_nil, List.length_append, List.length_map, List.length_take, List.length_drop] <;> omega)) only [al6, go_sem, Nat.reduceAdd, Nat.reduceMul, Nat.reduceSub, Nat.reduceLeDiff, Nat.reduceLT, Nat.reduceEqDiff, Nat.reduceBEq, Nat.reduceBNe, Int.reduceNeg, Int.reduceToNat, Int.reduceLT, Int.reduceLE, Int.reduceEq, Int.reduceAdd, Int.reduceMul, Int.reduceSub, Nat.reduceSucc, Nat.reduceGT, Nat.reducePow, Int.reducePow, reduceCtorEq, ↓reduceIte]
  refine (hal 2).use ?_
  simp (disch := first | omega | (simp only [List.length_cons, List.length_nil, List.length_append, List.length_map, List.length_take, List.length_drop] <;> omega)) only [al2, go_sem, Nat.reduceAdd, Nat.reduceMul, Nat.reduceSub, Nat.reduceLeDiff, Nat.reduceLT, Nat.reduceEqDiff, Nat.reduceBEq, Nat.reduceBNe, Int.reduceNeg, Int.reduceToNat, Int.reduceLT, Int.reduceLE, Int.reduceEq, Int.reduceAdd, Int.reduceMul, Int.reduceSub, Nat.reduceSucc, Nat.reduceGT, Nat.reducePow, Int.reducePow, reduceCtorEq, ↓reduceIte]
  refine (hal 7).use ?_
  simp (disch := first | omega | (simp only [List.length_cons, List.length_nil, List.length_append, List.length_map, List.length_take, List.length_drop] <;> omega)) only [al7, go_sem, Nat.reduceAdd, Nat.reduceMul, Nat.reduceSub, Nat.reduceLeDiff, Nat.reduceLT, Nat.reduceEqDiff, Nat.reduceBEq, Nat.reduceBNe, Int.reduceNeg, Int.reduceToNat, Int.reduceLT, Int.reduceLE, Int.reduceEq, Int.reduceAdd, Int.reduceMul, Int.reduceSub, Nat.reduceSucc, Nat.reduceGT, Nat.reducePow, Int.reducePow, reduceCtorEq, ↓reduceIte]
  refine (hal 8).use ?_
  simp (disch := first | omega | (simp only [List.length_cons, List.length_nil, List.length_append, List.length_map, List.length_take, List.length_drop] <;> omega)) only [al8, go_sem, Nat.reduceAdd, Nat.reduceMul, Nat.reduceSub, Nat.reduceLeDiff, Nat.reduceLT, Nat.reduceEqDiff, Nat.reduceBEq, Nat.reduceBNe, Int.reduceNeg, Int.reduceToNat, Int.reduceLT, Int.reduceLE, Int.reduceEq, Int.reduceAdd, Int.reduceMul, Int.reduceSub, Nat.reduceSucc, Nat.reduceGT, Nat.reducePow, Int.reducePow, reduceCtorEq, ↓reduceIte]
  refine hne.use ?_
  simp (disch := first | omega | (simp only [List.length_cons, List.length_nil, List.length_append, List.length_map, List.length_take, List.length_drop] <;> omega)) only [go_sem, Nat.reduceAdd, Nat.reduceMul, Nat.reduceSub, Nat.reduceLeDiff, Nat.reduceLT, Nat.reduceEqDiff, Nat.reduceBEq, Nat.reduceBNe, Int.reduceNeg, Int.reduceToNat, Int.reduceLT, Int.reduceLE, Int.reduceEq, Int.reduceAdd, Int.reduceMul, Int.reduceSub, Nat.reduceSucc, Nat.reduceGT, Nat.reducePow, Int.reducePow, reduceCtorEq, ↓reduceIte]
  refine hnv.use ?_
  simp (disch := first | omega | (simp only [List.length_cons, List.length_nil, List.length_append, List.length_map, List.length_take, List.length_drop] <;> omega)) only [go_sem, Nat.reduceAdd, Nat.reduceMul, Nat.reduceSub, Nat.reduceLeDiff, Nat.reduceLT, Nat.reduceEqDiff, Nat.reduceBEq, Nat.reduceBNe, Int.reduceNeg, Int.reduceToNat, Int.reduceLT, Int.reduceLE, Int.reduceEq, Int.reduceAdd, Int.reduceMul, Int.reduceSub, Nat.reduceSucc, Nat.reduceGT, Nat.reducePow, Int.reducePow, reduceCtorEq, ↓reduceIte]
end Go.Proofs.Ytalmcdllbibknaa.K
