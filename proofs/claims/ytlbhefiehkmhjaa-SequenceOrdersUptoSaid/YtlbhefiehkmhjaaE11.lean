/- Contracts: an instance, checked. -/
import Derived.Test.YtlbhefiehkmhjaaE10
import Derived.Test.YtlbhefiehkmhjaaE4
set_option linter.unusedVariables false
set_option linter.unusedSimpArgs false
namespace Go.Proofs.Ytlbhefiehkmhjaa.K
open Go Go.AM Go.Proofs
set_option maxRecDepth 8000
set_option maxHeartbeats 16000000

@[go_sem] theorem app1_genm {H : List AM.Obj} {β : Type} {S b o n : Nat} {xs : List PV} {g : β → PV} {m : List β} (hb : (n + m.length) * b ≤ 140737488355328) (hb2 : n + m.length ≤ 140737488355328) :
    app1 H (some (S, b)) (.elems S xs) o n (some (m.map g)) = if xs.length = n ∧ okE S (m.map g) = true then some (.sl o 0 (n + m.length) (n + m.length), ost H o (.elems S (xs ++ m.map g))) else none := by
  rw [app1_gen]
  simp only [List.length_map, hb, hb2, and_true]

def und (word : List UInt8) (f : Flt) : Flt := (f.1, if f.2 = [] then word else word ++ [32] ++ f.2)
theorem under13_c (word : List UInt8) (l : List Flt) (c : Bool) (hword : word.length ≤ 100) (hl : l.length ≤ 4194306000000) (hp : ∀ f ∈ l, pF 100 f) :
    ACalls Try.prog 87 [.p (.str word), .p (.list c (l.map eF))] [] fun x H' => x = .sl 0 0 (l.map (und word)).length (l.map (und word)).length ∧ H' = [.elems 2 ((l.map (und word)).map eF)] := by
  suffices hh : ACalls Try.prog 87 [.p (.str word), .p (.list c (l.map eF))] [] fun x H' => ∃ m : List Flt, m = l.map (und word) ∧ x = .sl 0 0 m.length m.length ∧ H' = [.elems 2 (m.map eF)] by
    refine hh.mono ?_
    rintro x H' ⟨m, rfl, h1, h2⟩
    exact ⟨h1, h2⟩
  refine acalls_freshE [2] (fn := Try.f87) Try.func87 rfl isF87 ?_
  simp (disch := omega) only [Try.f87, go_sem, Nat.reduceAdd, Nat.reduceMul, Nat.reduceSub, Nat.reduceLeDiff, Nat.reduceLT, Nat.reduceEqDiff, Nat.reduceBEq, Nat.reduceBNe, Int.reduceNeg, Int.reduceToNat, Int.reduceLT, Int.reduceLE, Int.reduceEq, Int.reduceAdd, Int.reduceMul, Int.reduceSub, Nat.reduceSucc, Nat.reduceGT, Nat.reducePow, Int.reducePow, reduceCtorEq, ↓reduceIte]
  refine awp_weak (Weak.ofNil 5 2 (by simp (disch := omega) only [go_sem, Nat.reduceAdd, Nat.reduceMul, Nat.reduceSub, Nat.reduceLeDiff, Nat.reduceLT, Nat.reduceEqDiff, Nat.reduceBEq, Nat.reduceBNe, Int.reduceNeg, Int.reduceToNat, Int.reduceLT, Int.reduceLE, Int.reduceEq, Int.reduceAdd, Int.reduceMul, Int.reduceSub, Nat.reduceSucc, Nat.reduceGT, Nat.reducePow, Int.reducePow, reduceCtorEq, ↓reduceIte]) (by simp) (Weak.refl _ _ _)) ?_
  refine awp_sound [] _ _ _ _ ?_
  simp (disch := omega) only [go_sem, Nat.reduceAdd, Nat.reduceMul, Nat.reduceSub, Nat.reduceLeDiff, Nat.reduceLT, Nat.reduceEqDiff, Nat.reduceBEq, Nat.reduceBNe, Int.reduceNeg, Int.reduceToNat, Int.reduceLT, Int.reduceLE, Int.reduceEq, Int.reduceAdd, Int.reduceMul, Int.reduceSub, Nat.reduceSucc, Nat.reduceGT, Nat.reducePow, Int.reducePow, reduceCtorEq, ↓reduceIte]
  refine awp_for [0, 1] (fun q : Nat × List Flt => [(5, .sl 0 0 q.2.length q.2.length), (6, .p (.int .i64 q.1))]) (fun q => [.elems 2 (q.2.map eF)]) (fun q => q.1 ≤ l.length ∧ q.2 = (l.take q.1).map (und word)) (fun q => l.length - q.1) (0, []) ⟨by simp, by simp⟩ (Weak.mk ?_) ?_
  · simp (disch := omega) only [go_sem, Nat.reduceAdd, Nat.reduceMul, Nat.reduceSub, Nat.reduceLeDiff, Nat.reduceLT, Nat.reduceEqDiff, Nat.reduceBEq, Nat.reduceBNe, Int.reduceNeg, Int.reduceToNat, Int.reduceLT, Int.reduceLE, Int.reduceEq, Int.reduceAdd, Int.reduceMul, Int.reduceSub, Nat.reduceSucc, Nat.reduceGT, Nat.reducePow, Int.reducePow, reduceCtorEq, ↓reduceIte]
  · rintro ⟨k, m⟩ ⟨hk, hm⟩
    simp only at hk hm
    have hml : m.length ≤ k := by rw [hm]; simp; omega
    simp (disch := omega) only [go_sem, Nat.reduceAdd, Nat.reduceMul, Nat.reduceSub, Nat.reduceLeDiff, Nat.reduceLT, Nat.reduceEqDiff, Nat.reduceBEq, Nat.reduceBNe, Int.reduceNeg, Int.reduceToNat, Int.reduceLT, Int.reduceLE, Int.reduceEq, Int.reduceAdd, Int.reduceMul, Int.reduceSub, Nat.reduceSucc, Nat.reduceGT, Nat.reducePow, Int.reducePow, reduceCtorEq, ↓reduceIte]
    refine acond_b (fun h => ?_) (fun h => ?_) <;> (try simp only [decide_eq_true_eq, decide_eq_false_iff_not] at h) <;> simp (disch := omega) only [Sh.out h, go_sem, Nat.reduceAdd, Nat.reduceMul, Nat.reduceSub, Nat.reduceLeDiff, Nat.reduceLT, Nat.reduceEqDiff, Nat.reduceBEq, Nat.reduceBNe, Int.reduceNeg, Int.reduceToNat, Int.reduceLT, Int.reduceLE, Int.reduceEq, Int.reduceAdd, Int.reduceMul, Int.reduceSub, Nat.reduceSucc, Nat.reduceGT, Nat.reducePow, Int.reducePow, reduceCtorEq, ↓reduceIte]
    · have hk2 : k < l.length := by omega
      have hpk := hp _ (nth_mem hk2)
      unfold pF at hpk
      have hnext : ∀ f, f = und word (nth l k) → m ++ [f] = (l.take (k + 1)).map (und word) := fun f hf => by
        rw [hf, hm, List.take_succ_eq_append_getElem hk2, List.map_append, nth_get hk2]; rfl
      refine acond_b (fun h2 => ?_) (fun h2 => ?_) <;> (try simp only [decide_eq_true_eq, decide_eq_false_iff_not] at h2) <;> simp (disch := omega) only [Sh.out h2, go_sem, Nat.reduceAdd, Nat.reduceMul, Nat.reduceSub, Nat.reduceLeDiff, Nat.reduceLT, Nat.reduceEqDiff, Nat.reduceBEq, Nat.reduceBNe, Int.reduceNeg, Int.reduceToNat, Int.reduceLT, Int.reduceLE, Int.reduceEq, Int.reduceAdd, Int.reduceMul, Int.reduceSub, Nat.reduceSucc, Nat.reduceGT, Nat.reducePow, Int.reducePow, reduceCtorEq, ↓reduceIte]
      · have h3 : ¬ (nth l k).2 = [] := by simpa using h2
        simp (disch := first | omega | (simp only [List.length_cons, List.length_nil, List.length_append, List.length_map, List.length_take, List.length_drop] <;> omega)) only [go_sem, Nat.reduceAdd, Nat.reduceMul, Nat.reduceSub, Nat.reduceLeDiff, Nat.reduceLT, Nat.reduceEqDiff, Nat.reduceBEq, Nat.reduceBNe, Int.reduceNeg, Int.reduceToNat, Int.reduceLT, Int.reduceLE, Int.reduceEq, Int.reduceAdd, Int.reduceMul, Int.reduceSub, Nat.reduceSucc, Nat.reduceGT, Nat.reducePow, Int.reducePow, reduceCtorEq, ↓reduceIte]
        refine ⟨(k + 1, m ++ [((nth l k).1, word ++ [32] ++ (nth l k).2)]), ⟨by simp only; omega, hnext _ (by simp [und, h3])⟩, by simp only; omega, Weak.mk (by simp (disch := first | omega | (simp only [List.length_cons, List.length_nil, List.length_append, List.length_map, List.length_take, List.length_drop] <;> omega)) only [go_sem, Nat.reduceAdd, Nat.reduceMul, Nat.reduceSub, Nat.reduceLeDiff, Nat.reduceLT, Nat.reduceEqDiff, Nat.reduceBEq, Nat.reduceBNe, Int.reduceNeg, Int.reduceToNat, Int.reduceLT, Int.reduceLE, Int.reduceEq, Int.reduceAdd, Int.reduceMul, Int.reduceSub, Nat.reduceSucc, Nat.reduceGT, Nat.reducePow, Int.reducePow, reduceCtorEq, ↓reduceIte])⟩
      · have h3 : (nth l k).2 = [] := by simpa using h2
        refine ⟨(k + 1, m ++ [((nth l k).1, word)]), ⟨by simp only; omega, hnext _ (by simp [und, h3])⟩, by simp only; omega, Weak.mk (by simp (disch := first | omega | (simp only [List.length_cons, List.length_nil, List.length_append, List.length_map, List.length_take, List.length_drop] <;> omega)) only [go_sem, Nat.reduceAdd, Nat.reduceMul, Nat.reduceSub, Nat.reduceLeDiff, Nat.reduceLT, Nat.reduceEqDiff, Nat.reduceBEq, Nat.reduceBNe, Int.reduceNeg, Int.reduceToNat, Int.reduceLT, Int.reduceLE, Int.reduceEq, Int.reduceAdd, Int.reduceMul, Int.reduceSub, Nat.reduceSucc, Nat.reduceGT, Nat.reducePow, Int.reducePow, reduceCtorEq, ↓reduceIte])⟩
    · have hkn : k = l.length := by omega
      subst hkn
      exact ⟨m, by rw [hm, List.take_length], 0, by simp (disch := omega) only [go_sem, Nat.reduceAdd, Nat.reduceMul, Nat.reduceSub, Nat.reduceLeDiff, Nat.reduceLT, Nat.reduceEqDiff, Nat.reduceBEq, Nat.reduceBNe, Int.reduceNeg, Int.reduceToNat, Int.reduceLT, Int.reduceLE, Int.reduceEq, Int.reduceAdd, Int.reduceMul, Int.reduceSub, Nat.reduceSucc, Nat.reduceGT, Nat.reducePow, Int.reducePow, reduceCtorEq, ↓reduceIte]⟩

theorem chk_at {n : Int} {ap be : List (Int × Int)} (ha : ap.length ≤ 1048576) (hb : be.length ≤ 1048576) : ∀ f ∈ chk n ap be, pF 100 f := by
  have key : ∀ (word : List UInt8) (sm : Int × Int → Int × Int → Bool) (l : List (Int × Int)), word.length ≤ 6 → l.length ≤ 1048576 → ∀ f ∈ fltU n word sm l l.length, pF 100 f := fun word sm l hw hl f hf => by
    simp only [fltU, List.mem_append, List.mem_flatMap, List.mem_range] at hf
    rcases hf with hf | ⟨i, hi, hf⟩
    · unfold hdr at hf; split at hf <;> simp at hf
      subst hf; simp [pF]; omega
    · have hd := dec_digits 6 i (by omega)
      have : ∀ e : Int, pF 100 (e, atW word i) := fun e => by simp [pF, atW]; omega
      unfold flt at hf
      split at hf
      · simp at hf; subst hf; exact this _
      · split at hf <;> simp at hf
        subst hf; exact this _
  intro f hf
  rcases List.mem_append.1 hf with hf | hf
  · exact key _ _ _ (by simp) ha f hf
  · exact key _ _ _ (by simp) hb f hf
theorem chk_len {n : Int} {ap be : List (Int × Int)} : (chk n ap be).length ≤ ap.length + be.length + 2 := by
  have h1 := fltU_len n [97, 112, 97, 114, 116] (fun p q => decide (p = q ∨ (p.1 = q.2 ∧ p.2 = q.1))) ap ap.length
  have h2 := fltU_len n [98, 101, 102, 111, 114, 101] (fun p q => decide (p = q)) be be.length
  rw [chk, List.length_append]; omega

/-- an instance that is right -/
structure InstOk (x : Inst) : Prop where
  net : netOk x.net
  types : typesOk x.net x.types
  orders : ordersOk x.net.places.length (dimsOf x.types) x.types.length x.orders
  rules : chk x.orders.length x.apart x.before = []

theorem FR.und {p : Flt → Prop} {C : Prop} {b : Nat} {l : List Flt} (h : FR p C b l) (word : List UInt8) : FR (fun _ => True) C b (l.map (und word)) :=
  ⟨by simpa using h.len, by rw [List.map_eq_nil_iff]; exact h.emp, fun _ _ => trivial⟩

theorem ck13_c (x : Inst) (hw : x.wf 1048576) : ACalls Try.prog 40 [.p (eInst x)] [] fun y H' => ∃ m : List Flt, FR (fun _ => True) (InstOk x) 4194400000000 m ∧ y = .sl 0 0 m.length m.length ∧ H' = [.elems 2 (m.map eF)] := by
  obtain ⟨w1, w2, w3, w4, w5, w6, w7, w8, w9⟩ := hw
  refine acalls_freshE [] (fn := Try.f40) Try.func40 rfl isF40 ?_
  simp (disch := omega) only [Try.f40, go_sem, Nat.reduceAdd, Nat.reduceMul, Nat.reduceSub, Nat.reduceLeDiff, Nat.reduceLT, Nat.reduceEqDiff, Nat.reduceBEq, Nat.reduceBNe, Int.reduceNeg, Int.reduceToNat, Int.reduceLT, Int.reduceLE, Int.reduceEq, Int.reduceAdd, Int.reduceMul, Int.reduceSub, Nat.reduceSucc, Nat.reduceGT, Nat.reducePow, Int.reducePow, reduceCtorEq, ↓reduceIte]
  have ol := ordersF_len x.net.places.length (dimsOf x.types) x.types.length x.orders x.orders.length
  have oat := ordersF_at (np := x.net.places.length) (d := dimsOf x.types) (ty := x.types.length) w4
  have onil := ordersF_nil (np := x.net.places.length) (d := dimsOf x.types) (ty := x.types.length) (l := x.orders)
  have cl := chk_len (n := x.orders.length) (ap := x.apart) (be := x.before)
  have cat := chk_at (n := x.orders.length) w6 w8
  refine ((ck09_c x.net w1).frozenE).useV fun m1 h1 => ?_
  simp (disch := omega) only [go_sem, Nat.reduceAdd, Nat.reduceMul, Nat.reduceSub, Nat.reduceLeDiff, Nat.reduceLT, Nat.reduceEqDiff, Nat.reduceBEq, Nat.reduceBNe, Int.reduceNeg, Int.reduceToNat, Int.reduceLT, Int.reduceLE, Int.reduceEq, Int.reduceAdd, Int.reduceMul, Int.reduceSub, Nat.reduceSucc, Nat.reduceGT, Nat.reducePow, Int.reducePow, reduceCtorEq, ↓reduceIte]
  have h1p := h1.pmono (q := pF 100) fun f hf => hf.mono (by omega)
  have u1 := under13_c [110, 101, 116] m1 false (by simp) h1.len h1p.all
  have f1 := h1.und [110, 101, 116]
  generalize m1.map (und [110, 101, 116]) = q1 at u1 f1
  have f1l := f1.len
  refine (u1).useF ?_
  simp (disch := omega) only [go_sem, Nat.reduceAdd, Nat.reduceMul, Nat.reduceSub, Nat.reduceLeDiff, Nat.reduceLT, Nat.reduceEqDiff, Nat.reduceBEq, Nat.reduceBNe, Int.reduceNeg, Int.reduceToNat, Int.reduceLT, Int.reduceLE, Int.reduceEq, Int.reduceAdd, Int.reduceMul, Int.reduceSub, Nat.reduceSucc, Nat.reduceGT, Nat.reducePow, Int.reducePow, reduceCtorEq, ↓reduceIte]
  refine ((ck10_c x.net x.types x.types_c w1 w2 w3).frozenE).useV fun m2 h2 => ?_
  simp (disch := omega) only [go_sem, Nat.reduceAdd, Nat.reduceMul, Nat.reduceSub, Nat.reduceLeDiff, Nat.reduceLT, Nat.reduceEqDiff, Nat.reduceBEq, Nat.reduceBNe, Int.reduceNeg, Int.reduceToNat, Int.reduceLT, Int.reduceLE, Int.reduceEq, Int.reduceAdd, Int.reduceMul, Int.reduceSub, Nat.reduceSucc, Nat.reduceGT, Nat.reducePow, Int.reducePow, reduceCtorEq, ↓reduceIte]
  have h2p := h2.pmono (q := pF 100) fun f hf => hf.mono (by omega)
  have h2l := h2.len
  have u2 := (under13_c [116, 121, 112, 101, 115] m2 false (by simp) (by omega) h2p.all).frozen (by simp)
  have f2 := h2.und [116, 121, 112, 101, 115]
  generalize m2.map (und [116, 121, 112, 101, 115]) = q2 at u2 f2
  have f2l := f2.len
  refine (u2).use ?_
  simp (disch := omega) only [go_sem, Nat.reduceAdd, Nat.reduceMul, Nat.reduceSub, Nat.reduceLeDiff, Nat.reduceLT, Nat.reduceEqDiff, Nat.reduceBEq, Nat.reduceBNe, Int.reduceNeg, Int.reduceToNat, Int.reduceLT, Int.reduceLE, Int.reduceEq, Int.reduceAdd, Int.reduceMul, Int.reduceSub, Nat.reduceSucc, Nat.reduceGT, Nat.reducePow, Int.reducePow, reduceCtorEq, ↓reduceIte]
  have u3 := (under13_c [111, 114, 100, 101, 114, 115] (ordersF x.net.places.length (dimsOf x.types) x.types.length x.orders x.orders.length) false (by simp) (by omega) fun f hf => (oat f hf).mono (by omega)).frozen (by simp)
  have f3 := (show FR (fun _ => True) (ordersOk x.net.places.length (dimsOf x.types) x.types.length x.orders) (1 + 8 * x.orders.length) (ordersF x.net.places.length (dimsOf x.types) x.types.length x.orders x.orders.length) from ⟨ol, onil, fun _ _ => trivial⟩).und [111, 114, 100, 101, 114, 115]
  generalize (ordersF x.net.places.length (dimsOf x.types) x.types.length x.orders x.orders.length).map (und [111, 114, 100, 101, 114, 115]) = q3 at u3 f3
  have f3l := f3.len
  refine awp_drawnS 13 mixed (by kernel_rfl) (by kernel_rfl) ?_
  simp (disch := omega) only [go_sem, Nat.reduceAdd, Nat.reduceMul, Nat.reduceSub, Nat.reduceLeDiff, Nat.reduceLT, Nat.reduceEqDiff, Nat.reduceBEq, Nat.reduceBNe, Int.reduceNeg, Int.reduceToNat, Int.reduceLT, Int.reduceLE, Int.reduceEq, Int.reduceAdd, Int.reduceMul, Int.reduceSub, Nat.reduceSucc, Nat.reduceGT, Nat.reducePow, Int.reducePow, reduceCtorEq, ↓reduceIte]
  refine exq_call (dims10_c x.types x.types_c w2) ?_
  simp (disch := omega) only [go_sem, Nat.reduceAdd, Nat.reduceMul, Nat.reduceSub, Nat.reduceLeDiff, Nat.reduceLT, Nat.reduceEqDiff, Nat.reduceBEq, Nat.reduceBNe, Int.reduceNeg, Int.reduceToNat, Int.reduceLT, Int.reduceLE, Int.reduceEq, Int.reduceAdd, Int.reduceMul, Int.reduceSub, Nat.reduceSucc, Nat.reduceGT, Nat.reducePow, Int.reducePow, reduceCtorEq, ↓reduceIte]
  refine exq_call ((ck11_c x.net (dimsOf x.types) x.types.length x.orders x.orders_c w1 w4 w5).frozen (by simp)) ?_
  simp (disch := omega) only [go_sem, Nat.reduceAdd, Nat.reduceMul, Nat.reduceSub, Nat.reduceLeDiff, Nat.reduceLT, Nat.reduceEqDiff, Nat.reduceBEq, Nat.reduceBNe, Int.reduceNeg, Int.reduceToNat, Int.reduceLT, Int.reduceLE, Int.reduceEq, Int.reduceAdd, Int.reduceMul, Int.reduceSub, Nat.reduceSucc, Nat.reduceGT, Nat.reducePow, Int.reducePow, reduceCtorEq, ↓reduceIte]
  refine exq_call (u3) ?_
  simp (disch := omega) only [go_sem, Nat.reduceAdd, Nat.reduceMul, Nat.reduceSub, Nat.reduceLeDiff, Nat.reduceLT, Nat.reduceEqDiff, Nat.reduceBEq, Nat.reduceBNe, Int.reduceNeg, Int.reduceToNat, Int.reduceLT, Int.reduceLE, Int.reduceEq, Int.reduceAdd, Int.reduceMul, Int.reduceSub, Nat.reduceSucc, Nat.reduceGT, Nat.reducePow, Int.reducePow, reduceCtorEq, ↓reduceIte]
  have u4 := (under13_c [114, 117, 108, 101, 115] (chk x.orders.length x.apart x.before) false (by simp) (by omega) cat).frozen (by simp)
  have f4 := (show FR (fun _ => True) (chk x.orders.length x.apart x.before = []) (x.apart.length + x.before.length + 2) (chk x.orders.length x.apart x.before) from ⟨cl, Iff.rfl, fun _ _ => trivial⟩).und [114, 117, 108, 101, 115]
  generalize (chk x.orders.length x.apart x.before).map (und [114, 117, 108, 101, 115]) = q4 at u4 f4
  have f4l := f4.len
  refine ((rcheck_c x.orders.length x.apart x.before x.apart_c x.before_c w6 w8).frozen (by simp)).use ?_
  simp (disch := omega) only [go_sem, Nat.reduceAdd, Nat.reduceMul, Nat.reduceSub, Nat.reduceLeDiff, Nat.reduceLT, Nat.reduceEqDiff, Nat.reduceBEq, Nat.reduceBNe, Int.reduceNeg, Int.reduceToNat, Int.reduceLT, Int.reduceLE, Int.reduceEq, Int.reduceAdd, Int.reduceMul, Int.reduceSub, Nat.reduceSucc, Nat.reduceGT, Nat.reducePow, Int.reducePow, reduceCtorEq, ↓reduceIte]
  refine (u4).use ?_
  simp (disch := omega) only [go_sem, Nat.reduceAdd, Nat.reduceMul, Nat.reduceSub, Nat.reduceLeDiff, Nat.reduceLT, Nat.reduceEqDiff, Nat.reduceBEq, Nat.reduceBNe, Int.reduceNeg, Int.reduceToNat, Int.reduceLT, Int.reduceLE, Int.reduceEq, Int.reduceAdd, Int.reduceMul, Int.reduceSub, Nat.reduceSucc, Nat.reduceGT, Nat.reducePow, Int.reducePow, reduceCtorEq, ↓reduceIte]
  refine ⟨q1 ++ q2 ++ q3 ++ q4, ((f1.app f2).app f3 |>.app f4).to (by omega) ⟨fun ⟨⟨⟨a, b⟩, c⟩, d⟩ => ⟨a, b, c, d⟩, fun h => ⟨⟨⟨h.net, h.types⟩, h.orders⟩, h.rules⟩⟩, 1, ?_⟩
  simp (disch := omega) only [go_sem, Nat.reduceAdd, Nat.reduceMul, Nat.reduceSub, Nat.reduceLeDiff, Nat.reduceLT, Nat.reduceEqDiff, Nat.reduceBEq, Nat.reduceBNe, Int.reduceNeg, Int.reduceToNat, Int.reduceLT, Int.reduceLE, Int.reduceEq, Int.reduceAdd, Int.reduceMul, Int.reduceSub, Nat.reduceSucc, Nat.reduceGT, Nat.reducePow, Int.reducePow, reduceCtorEq, ↓reduceIte]
end Go.Proofs.Ytlbhefiehkmhjaa.K
