/- Declarations that the closing texts need, part 8: joined by tools/slim.py. -/
import Derived.Test.YtlbhefiehkmhjaaZ7
import Derived.Shelf.SlSortCmp.WholeK
set_option linter.unusedVariables false
set_option maxRecDepth 100000
namespace Go.Proofs.Ytlbhefiehkmhjaa.K
open Go Go.Shelf Go.Proofs
def sortItems_ren : Go.Shelf.Ren := ⟨fun | 6 => 70 | 15 => 106 | 14 => 105 | 28 => 134 | 29 => 135 | 20 => 126 | 21 => 127 | 22 => 128 | 23 => 129 | 24 => 130 | 25 => 131 | 26 => 132 | 27 => 133 | 46 => 145 | 47 => 146 | 48 => 147 | 49 => 148 | 50 => 149 | 57 => 152 | n => n, fun | 22 => 57 | 24 => 55 | 25 => 96 | 3 => 3 | 39 => 90 | 0 => 0 | 53 => 158 | 55 => 160 | 4 => 4 | 46 => 151 | 45 => 150 | 50 => 155 | 5 => 5 | 9 => 9 | 66 => 169 | 70 => 173 | 76 => 176 | 77 => 177 | n => n, fun | n => n⟩
theorem sortItems : Go.Proofs.SlLaysF0.n6 Try.prog sortItems_ren := {
  mixed := by kernel_rfl,
  f6 := ⟨Try.f70.name, by decide, Try.func70.trans (congrArg some (by kernel_rfl))⟩,
  f14 := ⟨Try.f105.name, by decide, Try.func105.trans (congrArg some (by kernel_rfl))⟩,
  f15 := Try.func106.trans (congrArg some (by kernel_rfl)),
  f20 := ⟨Try.f126.name, by decide, Try.func126.trans (congrArg some (by kernel_rfl))⟩,
  f21 := ⟨Try.f127.name, by decide, Try.func127.trans (congrArg some (by kernel_rfl))⟩,
  f22 := ⟨Try.f128.name, by decide, Try.func128.trans (congrArg some (by kernel_rfl))⟩,
  f23 := ⟨Try.f129.name, by decide, Try.func129.trans (congrArg some (by kernel_rfl))⟩,
  f24 := ⟨Try.f130.name, by decide, Try.func130.trans (congrArg some (by kernel_rfl))⟩,
  f25 := ⟨Try.f131.name, by decide, Try.func131.trans (congrArg some (by kernel_rfl))⟩,
  f26 := ⟨Try.f132.name, by decide, Try.func132.trans (congrArg some (by kernel_rfl))⟩,
  f27 := ⟨Try.f133.name, by decide, Try.func133.trans (congrArg some (by kernel_rfl))⟩,
  f28 := Try.func134.trans (congrArg some (by kernel_rfl)),
  f29 := Try.func135.trans (congrArg some (by kernel_rfl)),
  f46 := ⟨Try.f145.name, by decide, Try.func145.trans (congrArg some (by kernel_rfl))⟩,
  f47 := Try.func146.trans (congrArg some (by kernel_rfl)),
  f48 := Try.func147.trans (congrArg some (by kernel_rfl)),
  f49 := ⟨Try.f148.name, by decide, Try.func148.trans (congrArg some (by kernel_rfl))⟩,
  f50 := ⟨Try.f149.name, by decide, Try.func149.trans (congrArg some (by kernel_rfl))⟩,
  f57 := ⟨Try.f152.name, by decide, Try.func152.trans (congrArg some (by kernel_rfl))⟩,
  t0 := Try.underlying0,
  a0 := Try.isAgg0,
  z0 := Try.sizeOf0,
  v0 := Try.zeroValue0,
  t3 := Try.underlying3,
  a3 := Try.isAgg3,
  z3 := Try.sizeOf3,
  v3 := Try.zeroValue3,
  t4 := Try.underlying4,
  a4 := Try.isAgg4,
  z4 := Try.sizeOf4,
  v4 := Try.zeroValue4,
  t5 := Try.underlying5,
  a5 := Try.isAgg5,
  z5 := Try.sizeOf5,
  v5 := Try.zeroValue5,
  t9 := Try.underlying9,
  a9 := Try.isAgg9,
  z9 := Try.sizeOf9,
  v9 := Try.zeroValue9,
  t22 := Try.underlying57,
  a22 := Try.isAgg57,
  z22 := Try.sizeOf57,
  v22 := Try.zeroValue57,
  t25 := Try.underlying96,
  a25 := Try.isAgg96,
  z25 := Try.sizeOf96,
  v25 := Try.zeroValue96,
  t39 := Try.underlying90,
  a39 := Try.isAgg90,
  z39 := Try.sizeOf90,
  v39 := Try.zeroValue90,
  t45 := Try.underlying150,
  a45 := Try.isAgg150,
  z45 := Try.sizeOf150,
  v45 := Try.zeroValue150,
  t46 := Try.underlying151,
  a46 := Try.isAgg151,
  z46 := Try.sizeOf151,
  v46 := Try.zeroValue151,
  t50 := Try.underlying155,
  a50 := Try.isAgg155,
  z50 := Try.sizeOf155,
  v50 := Try.zeroValue155,
  t53 := Try.underlying158,
  a53 := Try.isAgg158,
  z53 := Try.sizeOf158,
  v53 := Try.zeroValue158,
  t55 := Try.underlying160,
  a55 := Try.isAgg160,
  z55 := Try.sizeOf160,
  v55 := Try.zeroValue160,
  t66 := Try.underlying169,
  a66 := Try.isAgg169,
  z66 := Try.sizeOf169,
  v66 := Try.zeroValue169,
  t70 := Try.underlying173,
  a70 := Try.isAgg173,
  z70 := Try.sizeOf173,
  v70 := Try.zeroValue173,
  t76 := Try.underlying176,
  a76 := Try.isAgg176,
  z76 := Try.sizeOf176,
  v76 := Try.zeroValue176,
  t77 := Try.underlying177,
  a77 := Try.isAgg177,
  z77 := Try.sizeOf177,
  v77 := Try.zeroValue177 }
end Go.Proofs.Ytlbhefiehkmhjaa.K
set_option linter.unusedVariables false
set_option linter.unusedSimpArgs false
namespace Go.AM
open Go.RowKit Go.Shelf Go.Lib Go.Sort Go.Proofs
theorem grown_of {W w' : World} {H' : List AM.Obj} {ι' : List (Option Nat)} (g : Good Noth [] [] W H' ι' w') : ∃ q os', w' = grow (W.drewN q) os' := by
  refine ⟨w'.drawn - W.drawn, w'.heap.extract W.heap.size w'.heap.size, ?_⟩
  have h1 : w'.heap = W.heap ++ w'.heap.extract W.heap.size w'.heap.size := by
    apply Array.ext_getElem?
    intro i
    by_cases hi : i < W.heap.size
    · rw [Array.getElem?_append_left hi]
      exact g.keep i hi (by simp)
    · rw [Array.getElem?_append_right (by omega)]
      have := g.size
      rw [Array.getElem?_extract]
      split
      · congr 1; omega
      · rw [Array.getElem?_eq_none (by omega)]
  have h2 := g.drawn
  have h3 := g.tape
  have h4 := g.os
  have h5 := g.output
  cases w'
  simp only [grow, World.drewN] at *
  congr 1
  omega
/-- the cells of element i, azs they stand in memory -/
def rawE (c : Array Value) (k i : Nat) : List Value := (List.range k).map fun j => c.getD (i * k + j) undef
theorem rawE_len (c k i) : (rawE c k i).length = k := by simp [rawE]
theorem rawE_get {c k i j} (h : j < k) : (rawE c k i)[j]! = c.getD (i * k + j) undef := by
  rw [List.getElem!_eq_getElem?_getD, rawE, List.getElem?_map, List.getElem?_range h]; rfl
theorem ACalls.sortFunc {P : Program} {ρ : Ren} (L : SlLaysF0.n6 P ρ) (hg : IsFun P (ρ.f 6)) (k : Nat) (aE : ∀ w, (isAgg (ρ.t 24)).run P w = .ok true w) (zE : ∀ w, (Go.sizeOf (ρ.t 24)).run P w = .ok k w)
    {β : Type} [Inhabited β] (f : β → PV) (hf : ∀ x, ∃ cs, f x = .agg cs ∧ cs.length = k ∧ cs.all (·.one) = true) (cf : β → β → Int) (hO : SWO (ltOf cf)) (g : FuncId)
    (hcmp : ∀ x y, ACalls P g [.p (f x), .p (f y)] [] fun r H' => r = .p (.int .i64 (cf x y)) ∧ H' = []) (xs : List β) (hne : xs ≠ []) (hlen : xs.length < 4611686018427387904) {H : List AM.Obj} {o : Nat} (hHo : H[o]? = some (.elems k (xs.map f))) :
    ACalls P (ρ.f 6) [.sl o 0 xs.length xs.length, .fn (.func g) [] []] H fun y H' => y = .tup [] ∧ ∃ ys : List β, ys.Perm xs ∧ ys.Pairwise (fun a b => ¬ cf b a < 0) ∧ H' = H.set o (.elems k (ys.map f)) := by
  refine ⟨hg, fun F ι w vs hr hv => ?_⟩
  obtain ⟨hv1, hv2⟩ := hv
  have h0 := hv2 0 _ rfl
  have h1 := hv2 1 _ rfl
  have hvs : vs = #[vs.getD 0 undef, vs.getD 1 undef] := by
    apply Array.ext
    · simpa using hv1
    · intro i h2 h3
      have : i = 0 ∨ i = 1 := by simp at hv1; omega
      rcases this with rfl | rfl <;> simp [Array.getD, h2]
  rw [hvs]
  generalize vs.getD 0 undef = v0 at h0 ⊢
  generalize vs.getD 1 undef = v1 at h1 ⊢
  clear hvs hv1 hv2
  cases h1 with | fn _ _ _ a e hs ht _ _ =>
  have ea : a = #[] := Array.eq_empty_of_size_eq_zero (by simpa using hs)
  have ee : e = #[] := Array.eq_empty_of_size_eq_zero (by simpa using ht)
  subst ea; subst ee
  have hn : 0 < xs.length := List.length_pos_iff.2 hne
  generalize hL : xs.length = n at h0 hn hlen
  cases h0 with
  | slNil => omega
  | slD _ _ _ _ _ hd => rw [hHo] at hd; cases hd
  | slS _ _ _ _ _ S ys hd hlt => rw [hHo] at hd; simp at hd; obtain ⟨_, rfl⟩ := hd; simp at hlt; omega
  | sl _ _ _ _ b S cap t ys c hι hH ht2 hw hcap hl hle hm =>
  rw [hHo] at hH
  simp at hH
  obtain ⟨rfl, rfl⟩ := hH
  rcases hr.elm o k (xs.map f) hHo with ⟨e1, _⟩ | ⟨b2, c2, t2, cap2, e1, e2, e3, e4, e5, e6, e7⟩
  · rw [hι] at e1; cases e1
  rw [hι] at e1
  simp at e1; subst e1
  rw [hw] at e2
  simp at e2
  obtain ⟨rfl, rfl⟩ := e2
  have hbs : b < w.heap.size := (hr.avo o b hι).2
  have hbF : ¬ F b := (hr.avo o b hι).1
  -- an index, made one that there is
  let ix : Nat → Nat := fun i => if i < n then i else 0
  have hix : ∀ i, ix i < n := fun i => by simp only [ix]; split <;> omega
  have hixe : ∀ i, i < n → ix i = i := fun i hi => by simp only [ix]; rw [if_pos hi]
  let enc : Nat → List Value := fun i => rawE c k (ix i)
  have hk : ∀ x, (enc x).length = k := fun x => rawE_len _ _ _
  -- one cell of an element
  have cell : ∀ i, i < n → ∃ cs, f (nth xs i) = .agg cs ∧ cs.length = k ∧ ∀ (j : Nat) (y : PV), cs[j]? = some y → y.one = true ∧ RP (Own F ι) w y (c.getD (i * k + j) undef) := fun i hi => by
    obtain ⟨cs, q1, q2, q3⟩ := hf (nth xs i)
    refine ⟨cs, q1, q2, fun j y hj => ⟨List.all_eq_true.1 q3 y (List.mem_of_getElem? hj), ?_⟩⟩
    refine e7 i (f (nth xs i)) j y ?_ (by rw [q1]; exact hj)
    rw [List.getElem?_map, List.getElem?_eq_getElem (by omega), nth_get (by omega)]; rfl
  have one : ∀ x, ∀ v ∈ enc x, v.oneCell' = true := fun x v hv => by
    obtain ⟨j, hj, rfl⟩ := List.mem_iff_getElem.1 hv
    have hjk : j < k := by rw [hk] at hj; exact hj
    obtain ⟨cs, q1, q2, q3⟩ := cell (ix x) (hix x)
    have hg := q3 j (cs[j]'(by omega)) (by simp)
    have e9 : (enc x)[j] = c.getD (ix x * k + j) undef := by
      have := rawE_get (c := c) (i := ix x) hjk
      rw [List.getElem!_eq_getElem?_getD, List.getElem?_eq_getElem (by rw [rawE_len]; exact hjk)] at this
      exact this
    rw [e9]
    exact hg.2.oneCell hg.1
  let d : Array Nat := Array.range n
  have hd : d.size = n := by simp [d]
  let cf' : Nat → Nat → Int := fun i j => cf (nth xs (ix i)) (nth xs (ix j))
  have hO' : SWO (ltOf cf') := ⟨fun x => hO.irrefl _, fun x y z h1 h2 => hO.trans _ _ _ h1 h2, fun x y z h1 h2 => hO.ntrans _ _ _ h1 h2⟩
  have hsz : n * k ≤ c.size := by
    rw [e3]; exact Nat.mul_le_mul_right k (by simpa [hL] using e4)
  have hcell : ∀ j, j < c.size → w.cell? ⟨b, j, none⟩ = some (c.getD j undef) := fun j hj => by
    simp [World.cell?, hw, hj]
  have hHolds : HoldsK enc k w b (0 * k) d := fun j hj => by
    have hj2 : j < n * k := by simpa [hd] using hj
    have k0 : 0 < k := by rcases Nat.eq_zero_or_pos k with h | h; · subst h; simp at hj2
                          · exact h
    rw [get_flatK enc k d j (by rw [hd]; exact hj2)]
    have hdj : j / k < n := Nat.div_lt_of_lt_mul (by rw [Nat.mul_comm]; exact hj2)
    have hde : d[j / k]! = j / k := by simp [d, hdj]
    rw [hde]
    have e9 : (enc (j / k))[j % k]! = c.getD j undef := by
      show (rawE c k (ix (j / k)))[j % k]! = _
      rw [hixe _ hdj, rawE_get (Nat.mod_lt _ k0), Nat.div_add_mod']
    rw [e9, Nat.zero_mul, Nat.zero_add]
    exact ⟨hcell j (by omega), by simp [World.frozen?, hw]⟩
  have hcmp' : CmpLays P g #[] enc k cf' b (0 * k) d.size w := fun m os dk hdk x y => by
    generalize hW : sortWorldK enc k w b (0 * k) m dk os = W
    have hKeep : Keeps (Own F ι) w Noth W := fun b' hb' hs' => by
      have hne : b' ≠ b := fun e => hb' (.inr (e ▸ List.mem_of_getElem? hι))
      refine ⟨fun h => h, ?_, ?_⟩
      · rw [← hW]; simp [sortWorldK, grow, putRowK, putRow, mapBlock, ahead]; omega
      · rw [← hW]
        simp only [sortWorldK, grow, putRowK, putRow, mapBlock, ahead]
        rw [Array.getElem?_append_left (by simpa using hs'), Array.getElem?_modify, if_neg (fun e => hne e.symm)]
        rfl
    have arg : ∀ i, RV Noth [] [] W (.p (f (nth xs (ix i)))) (.agg (enc i).toArray) := fun i => by
      obtain ⟨cs, q1, q2, q3⟩ := cell (ix i) (hix i)
      refine .p _ _ ?_
      rw [q1]
      refine (RP.agg cs (enc i).toArray (by simp [hk, q2]) fun j y hj => ?_ : RP Noth W _ _).weaker fun b hb => by
        rcases hb with hb | hb
        · exact hb
        · simp at hb
      have hjk : j < k := by rw [← q2]; exact (List.getElem?_eq_some_iff.1 hj).1
      have e9 : (enc i).toArray.getD j undef = c.getD (ix i * k + j) undef := by
        have := rawE_get (c := c) (i := ix i) hjk
        rw [List.getElem!_eq_getElem?_getD, List.getElem?_eq_getElem (by rw [rawE_len]; exact hjk)] at this
        simp only [Array.getD_eq_getD_getElem?, List.getElem?_toArray]
        rw [List.getElem?_eq_getElem (by rw [hk]; exact hjk), Option.getD_some]
        rw [Option.getD_some] at this
        simpa only [Array.getD_eq_getD_getElem?] using this
      rw [e9]
      exact (q3 j y hj).2.ext hKeep
    refine ((hcmp (nth xs (ix x)) (nth xs (ix y))).2 Noth [] W _ (rel_noth W) ⟨rfl, fun j q hj => ?_⟩).mono ?_
    · cases j with
      | zero => simp at hj; subst hj; exact arg x
      | succ j => cases j with
        | zero => simp at hj; subst hj; exact arg y
        | succ j => simp at hj
    · rintro e' w' ⟨x', H', ι', v, rfl, ⟨rfl, rfl⟩, gd, rv⟩
      cases rv with | p _ _ rp =>
      rw [rp.int_inv]
      exact ⟨rfl, grown_of gd⟩
  have eg := (hcmp default default).1
  have main := AnyQ.slices_SortFunc L k aE zE enc hk one cf' hO' g #[] b (0 * k) cap d w (fun args w => eg args w) hcmp' hHolds hbs (by rw [hd]; exact hlen)
  rw [hd] at main
  refine main.mono ?_
  rintro e' w' ⟨rfl, d', m, os, hp, hso, rfl⟩
  obtain ⟨p1, _, p3⟩ := hp
  rw [hd] at p1
  have hperm : d'.toList.Perm (List.range n) := by
    have e8 : (d'.extract 0 n).toList = d'.toList := by rw [← p1]; simp
    have e9 : (d.extract 0 n).toList = List.range n := by
      have : d.extract 0 n = d := by rw [← hd]; simp
      rw [this]; simp [d]
    rw [e8, e9] at p3; exact p3
  have hlt : ∀ i ∈ d'.toList, i < n := fun i hi => by simpa using hperm.mem_iff.1 hi
  have hlt2 : ∀ i, i < n → d'.toList[i]?.isSome = true := fun i hi => by simp [p1, hi]
  have hget : ∀ i (hi : i < n), d'[i]! = d'.toList[i]'(by simp [p1, hi]) := fun i hi => by
    rw [getElem!_pos d' i (by omega)]; simp
  let ys : List β := d'.toList.map (nth xs)
  have hyl : ys.length = n := by simp [ys, p1]
  have hys : ∀ i (hi : i < n), ys[i]'(by omega) = nth xs d'[i]! := fun i hi => by
    simp only [ys, List.getElem_map]; rw [hget i hi]
  have hdl : ∀ i, i < n → d'[i]! < n := fun i hi => by rw [hget i hi]; exact hlt _ (List.getElem_mem _)
  have yperm : ys.Perm xs := by
    have h9 : (List.range n).map (nth xs) = xs := by
      refine List.ext_getElem (by simp [hL]) fun i h1 h2 => ?_
      simp only [List.getElem_map, List.getElem_range]
      rw [nth_get h2]
    have := hperm.map (nth xs)
    rw [h9] at this; exact this
  have ysort : ys.Pairwise fun a b => ¬ cf b a < 0 := by
    rw [List.pairwise_iff_getElem]
    intro i j hi hj hij
    rw [hys i (by omega), hys j (by omega)]
    have h9 := hso i j (Nat.zero_le _) hij (by omega)
    simp only [ltOf, cf', decide_eq_false_iff_not] at h9
    rwa [hixe _ (hdl j (by omega)), hixe _ (hdl i (by omega))] at h9
  let c' : Array Value := putCells id (0 * k) (flatK enc k d') c
  have hcs : c'.size = c.size := by simp [c', putCells]
  have hat : (sortWorldK enc k w b (0 * k) m d' os).heap[b]? = some (.cells c' t (0, 0)) := by
    simp only [sortWorldK, grow, putRowK, putRow, mapBlock, ahead]
    rw [Array.getElem?_append_left (by simpa using hbs), Array.getElem?_modify, if_pos rfl]
    show Option.map _ w.heap[b]? = _
    rw [hw]; rfl
  have hoth : ∀ q, q < w.heap.size → q ≠ b → (sortWorldK enc k w b (0 * k) m d' os).heap[q]? = w.heap[q]? := fun q hq hne => by
    simp only [sortWorldK, grow, putRowK, putRow, mapBlock, ahead]
    rw [Array.getElem?_append_left (by simpa using hq), Array.getElem?_modify, if_neg (fun e => hne e.symm)]
    rfl
  have hc' : ∀ i j, i < n → j < k → c'.getD (i * k + j) undef = c.getD (d'[i]! * k + j) undef := fun i j hi hj => by
    have hb1 : i * k + j < n * k := by
      have := Nat.mul_le_mul_right k (show i + 1 ≤ n from hi)
      rw [Nat.add_mul, Nat.one_mul] at this; omega
    have e8 : (flatK enc k d')[i * k + j]! = c.getD (d'[i]! * k + j) undef := by
      rw [get_flatK enc k d' _ (by rw [p1]; exact hb1)]
      have q1 : (i * k + j) / k = i := by rw [Nat.mul_comm, Nat.mul_add_div (by omega), Nat.div_eq_of_lt hj]; omega
      have q2 : (i * k + j) % k = j := by rw [Nat.mul_comm, Nat.mul_add_mod, Nat.mod_eq_of_lt hj]
      rw [q1, q2]
      show (rawE c k (ix d'[i]!))[j]! = _
      rw [rawE_get hj, hixe _ (hdl i hi)]
    have e9 : c'[i * k + j]? = some ((flatK enc k d')[i * k + j]!) := by
      simp only [c', putCells, Array.getElem?_mapIdx]
      rw [Array.getElem?_eq_getElem (by omega)]
      simp only [Option.map_some, Nat.zero_mul, Nat.zero_le, true_and, Nat.zero_add, size_flatK, p1, hb1, if_true, Nat.sub_zero, id]
    rw [Array.getD_eq_getD_getElem?, e9, Option.getD_some, e8]
  have good := good_setElems (w' := sortWorldK enc k w b (0 * k) m d' os) (c := c') (t := t) (xs' := ys.map f) (cap := cap2) (b' := b) hr (o := o) (S := k) (xs := xs.map f) hHo rfl rfl rfl (by simp [sortWorldK, grow, putRowK, putRow, mapBlock, ahead])
    (fun c0 t0 h => by rw [hw] at h; simp at h; obtain ⟨rfl, rfl⟩ := h; exact ⟨rfl, hcs⟩) (by simp [sortWorldK, grow, putRowK, putRow, mapBlock, ahead]) hat hoth (.inl ⟨hι, .inl ⟨by simp [hyl, hL], fun c0 t0 h => by rw [hw] at h; simp at h; obtain ⟨rfl, rfl⟩ := h; exact ⟨rfl, hcs⟩⟩⟩)
    (by rw [hcs]; exact e3) (by simp only [List.length_map, hyl]; simpa [hL] using e4) e5
    (fun i x hi => by
      rw [List.getElem?_map, Option.map_eq_some_iff] at hi
      obtain ⟨y, _, rfl⟩ := hi
      obtain ⟨cs, q1, q2, _⟩ := hf y
      rw [q1]; exact q2)
    (fun i x j y hi hj => by
      rw [List.getElem?_map, Option.map_eq_some_iff] at hi
      obtain ⟨z, hz, rfl⟩ := hi
      have hin : i < n := by have := (List.getElem?_eq_some_iff.1 hz).1; omega
      have e8 : z = nth xs d'[i]! := by
        obtain ⟨h9, h10⟩ := List.getElem?_eq_some_iff.1 hz
        rw [← h10]; exact hys i hin
      obtain ⟨cs, q1, q2, q3⟩ := cell _ (hdl i hin)
      rw [e8, q1] at hj
      have hjk : j < k := by rw [← q2]; exact (List.getElem?_eq_some_iff.1 hj).1
      rw [hc' i j hin hjk]
      exact (q3 j y hj).2)
  have hset : ι.set o (some b) = ι := by
    refine List.ext_getElem? fun i => ?_
    rw [List.getElem?_set]
    split
    · rename_i e; subst e
      have := (List.getElem?_eq_some_iff.1 hι).1
      rw [if_pos this, hι]
    · rfl
  rw [hset] at good
  exact ⟨.tup [], _, ι, .tuple #[], rfl, ⟨rfl, ys, yperm, ysort, rfl⟩, good, .tup [] #[] rfl (fun j c hj => by simp at hj)⟩
end Go.AM
set_option linter.unusedVariables false
set_option linter.unusedSimpArgs false
namespace Go.Proofs.Ytlbhefiehkmhjaa.K
open Go Go.AM Go.Proofs
set_option maxRecDepth 8000
set_option maxHeartbeats 8000000
deriving instance DecidableEq for Itm
theorem itm_eq {v w : Itm} : v = w ↔ v.kind = w.kind ∧ v.a = w.a := by cases v; cases w; simp
def cmpT (a b : Itm) : Int := if cmpI a.kind b.kind = 0 then cmpI a.a b.a else cmpI a.kind b.kind
theorem compare49_c (a b : Itm) : ACalls Try.prog 71 [.p (eItm a), .p (eItm b)] [] fun x H' => x = .p (.int .i64 (cmpT a b)) ∧ H' = [] := by
  refine acalls_pure (fn := Try.f71) Try.func71 rfl isF71 ?_
  simp (disch := omega) only [Try.f71, go_sem, Nat.reduceAdd, Nat.reduceMul, Nat.reduceSub, Nat.reduceLeDiff, Nat.reduceLT, Nat.reduceEqDiff, Nat.reduceBEq, Nat.reduceBNe, Int.reduceNeg, Int.reduceToNat, Int.reduceLT, Int.reduceLE, Int.reduceEq, Int.reduceAdd, Int.reduceMul, Int.reduceSub, Nat.reduceSucc, Nat.reduceGT, Nat.reducePow, Int.reducePow, reduceCtorEq, ↓reduceIte]
  refine awp_drawnA mixed (by kernel_rfl) (by kernel_rfl) ?_
  simp (disch := omega) only [go_sem, Nat.reduceAdd, Nat.reduceMul, Nat.reduceSub, Nat.reduceLeDiff, Nat.reduceLT, Nat.reduceEqDiff, Nat.reduceBEq, Nat.reduceBNe, Int.reduceNeg, Int.reduceToNat, Int.reduceLT, Int.reduceLE, Int.reduceEq, Int.reduceAdd, Int.reduceMul, Int.reduceSub, Nat.reduceSucc, Nat.reduceGT, Nat.reducePow, Int.reducePow, reduceCtorEq, ↓reduceIte]
  refine exq_call (cmp_c a.kind b.kind) ?_
  simp (disch := omega) only [go_sem, Nat.reduceAdd, Nat.reduceMul, Nat.reduceSub, Nat.reduceLeDiff, Nat.reduceLT, Nat.reduceEqDiff, Nat.reduceBEq, Nat.reduceBNe, Int.reduceNeg, Int.reduceToNat, Int.reduceLT, Int.reduceLE, Int.reduceEq, Int.reduceAdd, Int.reduceMul, Int.reduceSub, Nat.reduceSucc, Nat.reduceGT, Nat.reducePow, Int.reducePow, reduceCtorEq, ↓reduceIte]
  refine exq_call (cmp_c a.a b.a) ?_
  simp (disch := omega) only [go_sem, Nat.reduceAdd, Nat.reduceMul, Nat.reduceSub, Nat.reduceLeDiff, Nat.reduceLT, Nat.reduceEqDiff, Nat.reduceBEq, Nat.reduceBNe, Int.reduceNeg, Int.reduceToNat, Int.reduceLT, Int.reduceLE, Int.reduceEq, Int.reduceAdd, Int.reduceMul, Int.reduceSub, Nat.reduceSucc, Nat.reduceGT, Nat.reducePow, Int.reducePow, reduceCtorEq, ↓reduceIte]
  refine exq_call (or_c [cmpI a.kind b.kind, cmpI a.a b.a] false (by simp)) ?_
  simp (disch := omega) only [go_sem, Nat.reduceAdd, Nat.reduceMul, Nat.reduceSub, Nat.reduceLeDiff, Nat.reduceLT, Nat.reduceEqDiff, Nat.reduceBEq, Nat.reduceBNe, Int.reduceNeg, Int.reduceToNat, Int.reduceLT, Int.reduceLE, Int.reduceEq, Int.reduceAdd, Int.reduceMul, Int.reduceSub, Nat.reduceSucc, Nat.reduceGT, Nat.reducePow, Int.reducePow, reduceCtorEq, ↓reduceIte]
  rw [orI_two, cmpT]
theorem less49_c (a b : Itm) : ACalls Try.prog 33 [.p (eItm a), .p (eItm b)] [] fun x H' => x = .p (.bool (decide (cmpT a b < 0))) ∧ H' = [] := by
  refine acalls_pure (fn := Try.f33) Try.func33 rfl isF33 ?_
  simp (disch := omega) only [Try.f33, go_sem, Nat.reduceAdd, Nat.reduceMul, Nat.reduceSub, Nat.reduceLeDiff, Nat.reduceLT, Nat.reduceEqDiff, Nat.reduceBEq, Nat.reduceBNe, Int.reduceNeg, Int.reduceToNat, Int.reduceLT, Int.reduceLE, Int.reduceEq, Int.reduceAdd, Int.reduceMul, Int.reduceSub, Nat.reduceSucc, Nat.reduceGT, Nat.reducePow, Int.reducePow, reduceCtorEq, ↓reduceIte]
  refine (compare49_c a b).use ?_
  simp (disch := omega) only [go_sem, Nat.reduceAdd, Nat.reduceMul, Nat.reduceSub, Nat.reduceLeDiff, Nat.reduceLT, Nat.reduceEqDiff, Nat.reduceBEq, Nat.reduceBNe, Int.reduceNeg, Int.reduceToNat, Int.reduceLT, Int.reduceLE, Int.reduceEq, Int.reduceAdd, Int.reduceMul, Int.reduceSub, Nat.reduceSucc, Nat.reduceGT, Nat.reducePow, Int.reducePow, reduceCtorEq, ↓reduceIte]
theorem rless49_c (a b : Itm) : ACalls Try.prog 41 [.p (eItm a), .p (eItm b)] [] fun x H' => x = .p (.bool (decide (cmpT a b < 0))) ∧ H' = [] := by
  refine acalls_pure (fn := Try.f41) Try.func41 rfl isF41 ?_
  simp (disch := omega) only [Try.f41, go_sem, Nat.reduceAdd, Nat.reduceMul, Nat.reduceSub, Nat.reduceLeDiff, Nat.reduceLT, Nat.reduceEqDiff, Nat.reduceBEq, Nat.reduceBNe, Int.reduceNeg, Int.reduceToNat, Int.reduceLT, Int.reduceLE, Int.reduceEq, Int.reduceAdd, Int.reduceMul, Int.reduceSub, Nat.reduceSucc, Nat.reduceGT, Nat.reducePow, Int.reducePow, reduceCtorEq, ↓reduceIte]
  repeat' (first | (refine aguard_t (fun hq => ?_) (fun hq => ?_) <;> (try simp only [decide_eq_true_eq, decide_eq_false_iff_not, Classical.not_not] at hq) <;> simp (disch := omega) only [Sh.out hq, go_sem, Nat.reduceAdd, Nat.reduceMul, Nat.reduceSub, Nat.reduceLeDiff, Nat.reduceLT, Nat.reduceEqDiff, Nat.reduceBEq, Nat.reduceBNe, Int.reduceNeg, Int.reduceToNat, Int.reduceLT, Int.reduceLE, Int.reduceEq, Int.reduceAdd, Int.reduceMul, Int.reduceSub, Nat.reduceSucc, Nat.reduceGT, Nat.reducePow, Int.reducePow, reduceCtorEq, ↓reduceIte]) | (refine aguard_f (fun hq => ?_) (fun hq => ?_) <;> (try simp only [decide_eq_true_eq, decide_eq_false_iff_not, Classical.not_not] at hq) <;> simp (disch := omega) only [Sh.out hq, go_sem, Nat.reduceAdd, Nat.reduceMul, Nat.reduceSub, Nat.reduceLeDiff, Nat.reduceLT, Nat.reduceEqDiff, Nat.reduceBEq, Nat.reduceBNe, Int.reduceNeg, Int.reduceToNat, Int.reduceLT, Int.reduceLE, Int.reduceEq, Int.reduceAdd, Int.reduceMul, Int.reduceSub, Nat.reduceSucc, Nat.reduceGT, Nat.reducePow, Int.reducePow, reduceCtorEq, ↓reduceIte]) | (refine acond_b (fun hq => ?_) (fun hq => ?_) <;> (try simp only [decide_eq_true_eq, decide_eq_false_iff_not, Classical.not_not] at hq) <;> simp (disch := omega) only [Sh.out hq, go_sem, Nat.reduceAdd, Nat.reduceMul, Nat.reduceSub, Nat.reduceLeDiff, Nat.reduceLT, Nat.reduceEqDiff, Nat.reduceBEq, Nat.reduceBNe, Int.reduceNeg, Int.reduceToNat, Int.reduceLT, Int.reduceLE, Int.reduceEq, Int.reduceAdd, Int.reduceMul, Int.reduceSub, Nat.reduceSucc, Nat.reduceGT, Nat.reducePow, Int.reducePow, reduceCtorEq, ↓reduceIte]))
  · have : cmpT a b < 0 := by simp [cmpT, cmpI, hq]
    simp [this]
  · rename_i h1
    have : cmpT a b = cmpI a.a b.a := by simp [cmpT, cmpI, hq]
    rw [this]
    by_cases h2 : a.a < b.a
    · simp [cmpI, h2]
    · by_cases h3 : b.a < a.a <;> simp [cmpI, h2, h3]
  · rename_i h1
    have h2 : b.kind < a.kind := by omega
    have : ¬ cmpT a b < 0 := by simp [cmpT, cmpI, h1, h2]
    simp [this]
/-- an order that is cancelled, or is none -/
def offB (x : Inst) (o : Int) : Bool := decide (o < 0) || decide ((x.orders.length : Int) ≤ o) || (nth x.orders o.toNat).off
theorem off49_c (x : Inst) (o : Int) (hl : x.orders.length ≤ 1048576) : ACalls Try.prog 69 [.p (eInst x), .p (.int .i64 o)] [] fun y H' => y = .p (.bool (offB x o)) ∧ H' = [] := by
  refine acalls_pure (fn := Try.f69) Try.func69 rfl isF69 ?_
  simp (disch := omega) only [Try.f69, go_sem, Nat.reduceAdd, Nat.reduceMul, Nat.reduceSub, Nat.reduceLeDiff, Nat.reduceLT, Nat.reduceEqDiff, Nat.reduceBEq, Nat.reduceBNe, Int.reduceNeg, Int.reduceToNat, Int.reduceLT, Int.reduceLE, Int.reduceEq, Int.reduceAdd, Int.reduceMul, Int.reduceSub, Nat.reduceSucc, Nat.reduceGT, Nat.reducePow, Int.reducePow, reduceCtorEq, ↓reduceIte]
  refine aguard_f (fun h => ?_) (fun h => ?_) <;> (try simp only [decide_eq_true_eq, decide_eq_false_iff_not] at h) <;> simp (disch := omega) only [Sh.out h, go_sem, Nat.reduceAdd, Nat.reduceMul, Nat.reduceSub, Nat.reduceLeDiff, Nat.reduceLT, Nat.reduceEqDiff, Nat.reduceBEq, Nat.reduceBNe, Int.reduceNeg, Int.reduceToNat, Int.reduceLT, Int.reduceLE, Int.reduceEq, Int.reduceAdd, Int.reduceMul, Int.reduceSub, Nat.reduceSucc, Nat.reduceGT, Nat.reducePow, Int.reducePow, reduceCtorEq, ↓reduceIte]
  · simp [offB, h]
  · refine aguard_f (fun h2 => ?_) (fun h2 => ?_) <;> (try simp only [decide_eq_true_eq, decide_eq_false_iff_not] at h2) <;> simp (disch := omega) only [Sh.out h2, go_sem, Nat.reduceAdd, Nat.reduceMul, Nat.reduceSub, Nat.reduceLeDiff, Nat.reduceLT, Nat.reduceEqDiff, Nat.reduceBEq, Nat.reduceBNe, Int.reduceNeg, Int.reduceToNat, Int.reduceLT, Int.reduceLE, Int.reduceEq, Int.reduceAdd, Int.reduceMul, Int.reduceSub, Nat.reduceSucc, Nat.reduceGT, Nat.reducePow, Int.reducePow, reduceCtorEq, ↓reduceIte]
    · simp [offB, h2]
    · simp [offB, h, h2]
def itO (x : Inst) (i : Nat) : List Itm := if (nth x.orders i).off = true then [] else
  (if (nth x.orders i).pick.place ≠ -1 then [⟨1, i⟩] else []) ++ (if (nth x.orders i).drp.place ≠ -1 then [⟨2, i⟩] else []) ++ (if (nth x.orders i).skills ≠ 0 then [⟨4, i⟩] else []) ++ (if (nth x.orders i).penalty = -1 then [⟨10, i⟩] else [])
def itOs (x : Inst) (k : Nat) : List Itm := (List.range k).flatMap (itO x)
theorem itOs_succ (x k) : itOs x (k + 1) = itOs x k ++ itO x k := by simp [itOs, List.range_succ]
theorem itO_len (x i) : (itO x i).length ≤ 4 := by
  unfold itO
  split
  · simp
  · simp only [List.length_append]
    split <;> split <;> split <;> split <;> simp
theorem itOs_len (x) : ∀ k, (itOs x k).length ≤ 4 * k
  | 0 => by simp [itOs]
  | k + 1 => by
    have h1 := itOs_len x k
    have h2 := itO_len x k
    rw [itOs_succ, List.length_append]; omega
def hO (x : Inst) (m : List Itm) (i : Nat) : List AM.Obj := [instO x, .cells [.sl 2 0 m.length m.length], .elems 2 (m.map eItm), .cells [.p (.int .i64 (i : Nat))]]
theorem add49_c (x : Inst) (m : List Itm) (i : Nat) (has : Bool) (kind : Int) (hm : m.length ≤ 1048576) : ACalls Try.prog 104 [.p (.bool has), .p (.int .i64 kind), .ptr 1 0, .ptr 3 0] (hO x m i) fun y H' => y = .tup [] ∧ H' = hO x (if has = true then m ++ [⟨kind, i⟩] else m) i := by
  refine acalls_weak [] (fn := Try.f104) Try.func104 rfl isF104 ?_
  cases has with
  | true =>
    simp (disch := omega) only [Try.f104, hO, instO, go_sem, Nat.reduceAdd, Nat.reduceMul, Nat.reduceSub, Nat.reduceLeDiff, Nat.reduceLT, Nat.reduceEqDiff, Nat.reduceBEq, Nat.reduceBNe, Int.reduceNeg, Int.reduceToNat, Int.reduceLT, Int.reduceLE, Int.reduceEq, Int.reduceAdd, Int.reduceMul, Int.reduceSub, Nat.reduceSucc, Nat.reduceGT, Nat.reducePow, Int.reducePow, reduceCtorEq, ↓reduceIte]
    exact ⟨.tup [], hO x (m ++ [⟨kind, i⟩]) i, Weak.mk (by simp (disch := omega) only [hO, instO, go_sem, Nat.reduceAdd, Nat.reduceMul, Nat.reduceSub, Nat.reduceLeDiff, Nat.reduceLT, Nat.reduceEqDiff, Nat.reduceBEq, Nat.reduceBNe, Int.reduceNeg, Int.reduceToNat, Int.reduceLT, Int.reduceLE, Int.reduceEq, Int.reduceAdd, Int.reduceMul, Int.reduceSub, Nat.reduceSucc, Nat.reduceGT, Nat.reducePow, Int.reducePow, reduceCtorEq, ↓reduceIte]), rfl, by simp [hO, instO, eItm]⟩
  | false =>
    simp (disch := omega) only [Try.f104, hO, instO, go_sem, Nat.reduceAdd, Nat.reduceMul, Nat.reduceSub, Nat.reduceLeDiff, Nat.reduceLT, Nat.reduceEqDiff, Nat.reduceBEq, Nat.reduceBNe, Int.reduceNeg, Int.reduceToNat, Int.reduceLT, Int.reduceLE, Int.reduceEq, Int.reduceAdd, Int.reduceMul, Int.reduceSub, Nat.reduceSucc, Nat.reduceGT, Nat.reducePow, Int.reducePow, reduceCtorEq, ↓reduceIte]
    exact ⟨.tup [], hO x m i, Weak.mk (by simp (disch := omega) only [hO, instO, go_sem, Nat.reduceAdd, Nat.reduceMul, Nat.reduceSub, Nat.reduceLeDiff, Nat.reduceLT, Nat.reduceEqDiff, Nat.reduceBEq, Nat.reduceBNe, Int.reduceNeg, Int.reduceToNat, Int.reduceLT, Int.reduceLE, Int.reduceEq, Int.reduceAdd, Int.reduceMul, Int.reduceSub, Nat.reduceSucc, Nat.reduceGT, Nat.reducePow, Int.reducePow, reduceCtorEq, ↓reduceIte]), rfl, by simp [hO, instO]⟩
theorem ofOrders_own (x : Inst) (hl : x.orders.length ≤ 1000) : ACalls Try.prog 68 [.p (eInst x)] [] fun y H' => ∃ m : List Itm, m = itOs x x.orders.length ∧ y = .sl 0 0 m.length m.length ∧ H' = [.elems 2 (m.map eItm)] := by
  refine acalls_freshE [2] (fn := Try.f68) Try.func68 rfl isF68 ?_
  simp (disch := omega) only [Try.f68, go_sem, Nat.reduceAdd, Nat.reduceMul, Nat.reduceSub, Nat.reduceLeDiff, Nat.reduceLT, Nat.reduceEqDiff, Nat.reduceBEq, Nat.reduceBNe, Int.reduceNeg, Int.reduceToNat, Int.reduceLT, Int.reduceLE, Int.reduceEq, Int.reduceAdd, Int.reduceMul, Int.reduceSub, Nat.reduceSucc, Nat.reduceGT, Nat.reducePow, Int.reducePow, reduceCtorEq, ↓reduceIte]
  refine awp_weak (Weak.nilC (o := 1) (j := 0) 2 rfl rfl (by simp)) ?_
  refine awp_sound [] _ _ _ _ ?_
  simp (disch := omega) only [List.set_cons_succ, List.set_cons_zero, List.cons_append, List.nil_append, go_sem, Nat.reduceAdd, Nat.reduceMul, Nat.reduceSub, Nat.reduceLeDiff, Nat.reduceLT, Nat.reduceEqDiff, Nat.reduceBEq, Nat.reduceBNe, Int.reduceNeg, Int.reduceToNat, Int.reduceLT, Int.reduceLE, Int.reduceEq, Int.reduceAdd, Int.reduceMul, Int.reduceSub, Nat.reduceSucc, Nat.reduceGT, Nat.reducePow, Int.reducePow, reduceCtorEq, ↓reduceIte]
  refine awp_for [3, 8, 9] (fun q : Nat × List Itm => [(10, .p (.int .i64 q.1))]) (fun q => [instO x, .cells [.sl 2 0 q.2.length q.2.length], .elems 2 (q.2.map eItm)]) (fun q => q.1 ≤ x.orders.length ∧ q.2 = itOs x q.1) (fun q => x.orders.length - q.1) (0, []) ⟨by simp, by simp [itOs]⟩ (Weak.mk ?_) ?_
  · simp (disch := omega) only [instO, go_sem, Nat.reduceAdd, Nat.reduceMul, Nat.reduceSub, Nat.reduceLeDiff, Nat.reduceLT, Nat.reduceEqDiff, Nat.reduceBEq, Nat.reduceBNe, Int.reduceNeg, Int.reduceToNat, Int.reduceLT, Int.reduceLE, Int.reduceEq, Int.reduceAdd, Int.reduceMul, Int.reduceSub, Nat.reduceSucc, Nat.reduceGT, Nat.reducePow, Int.reducePow, reduceCtorEq, ↓reduceIte]
  · rintro ⟨i, m⟩ ⟨hi, hm⟩
    simp only at hi hm
    have hml : m.length ≤ 4 * i := by rw [hm]; exact itOs_len x i
    have hsc := itOs_succ x i
    simp (disch := omega) only [instO, go_sem, Nat.reduceAdd, Nat.reduceMul, Nat.reduceSub, Nat.reduceLeDiff, Nat.reduceLT, Nat.reduceEqDiff, Nat.reduceBEq, Nat.reduceBNe, Int.reduceNeg, Int.reduceToNat, Int.reduceLT, Int.reduceLE, Int.reduceEq, Int.reduceAdd, Int.reduceMul, Int.reduceSub, Nat.reduceSucc, Nat.reduceGT, Nat.reducePow, Int.reducePow, reduceCtorEq, ↓reduceIte]
    refine acond_b (fun h => ?_) (fun h => ?_) <;> (try simp only [decide_eq_true_eq, decide_eq_false_iff_not] at h) <;> simp (disch := omega) only [Sh.out h, go_sem, Nat.reduceAdd, Nat.reduceMul, Nat.reduceSub, Nat.reduceLeDiff, Nat.reduceLT, Nat.reduceEqDiff, Nat.reduceBEq, Nat.reduceBNe, Int.reduceNeg, Int.reduceToNat, Int.reduceLT, Int.reduceLE, Int.reduceEq, Int.reduceAdd, Int.reduceMul, Int.reduceSub, Nat.reduceSucc, Nat.reduceGT, Nat.reducePow, Int.reducePow, reduceCtorEq, ↓reduceIte]
    · have hi2 : i < x.orders.length := by omega
      refine acond_b (fun h2 => ?_) (fun h2 => ?_) <;> (try simp only [decide_eq_true_eq, decide_eq_false_iff_not] at h2) <;> simp (disch := omega) only [Sh.out h2, go_sem, Nat.reduceAdd, Nat.reduceMul, Nat.reduceSub, Nat.reduceLeDiff, Nat.reduceLT, Nat.reduceEqDiff, Nat.reduceBEq, Nat.reduceBNe, Int.reduceNeg, Int.reduceToNat, Int.reduceLT, Int.reduceLE, Int.reduceEq, Int.reduceAdd, Int.reduceMul, Int.reduceSub, Nat.reduceSucc, Nat.reduceGT, Nat.reducePow, Int.reducePow, reduceCtorEq, ↓reduceIte]
      · exact ⟨(i + 1, m), ⟨by simp only; omega, by simp only [hsc, itO, h2, if_true, hm, List.append_nil]⟩, by simp only; omega, Weak.mk (by simp (disch := omega) only [instO, go_sem, Nat.reduceAdd, Nat.reduceMul, Nat.reduceSub, Nat.reduceLeDiff, Nat.reduceLT, Nat.reduceEqDiff, Nat.reduceBEq, Nat.reduceBNe, Int.reduceNeg, Int.reduceToNat, Int.reduceLT, Int.reduceLE, Int.reduceEq, Int.reduceAdd, Int.reduceMul, Int.reduceSub, Nat.reduceSucc, Nat.reduceGT, Nat.reducePow, Int.reducePow, reduceCtorEq, ↓reduceIte])⟩
      · have c1 := add49_c x m i (decide ((nth x.orders i).pick.place ≠ -1)) 1 (by omega)
        have ifl : ∀ {c : Prop} [Decidable c] (m : List Itm) (v : Itm), (if decide c = true then m ++ [v] else m) = m ++ (if c then [v] else []) := fun {c} _ m v => by by_cases h : c <;> simp [h]
        have ifn : ∀ {c : Prop} [Decidable c] (v : Itm), (if c then [v] else []).length ≤ 1 := fun {c} _ v => by split <;> simp
        rw [ifl] at c1
        refine c1.useP (L := [_]) (by rfl) ?_ (by rfl) (by rfl)
        have n1 := ifn (c := (nth x.orders i).pick.place ≠ -1) ⟨1, i⟩
        have n2 := ifn (c := (nth x.orders i).drp.place ≠ -1) ⟨2, i⟩
        have n3 := ifn (c := (nth x.orders i).skills ≠ 0) ⟨4, i⟩
        have n4 := ifn (c := (nth x.orders i).penalty = -1) ⟨10, i⟩
        have hit : itO x i = (if (nth x.orders i).pick.place ≠ -1 then [⟨1, i⟩] else []) ++ (if (nth x.orders i).drp.place ≠ -1 then [⟨2, i⟩] else []) ++ (if (nth x.orders i).skills ≠ 0 then [⟨4, i⟩] else []) ++ (if (nth x.orders i).penalty = -1 then [⟨10, i⟩] else []) := by rw [itO, if_neg (by rw [h2]; simp)]
        generalize hA : (if (nth x.orders i).pick.place ≠ -1 then [(⟨1, i⟩ : Itm)] else []) = A at hit n1 c1 ⊢
        have c2 := add49_c x (m ++ A) i (decide ((nth x.orders i).drp.place ≠ -1)) 2 (by simp; omega)
        rw [ifl] at c2
        generalize (if (nth x.orders i).drp.place ≠ -1 then [(⟨2, i⟩ : Itm)] else []) = B at hit n2 c2
        have c3 := add49_c x (m ++ A ++ B) i (decide ((nth x.orders i).skills ≠ 0)) 4 (by simp; omega)
        rw [ifl] at c3
        generalize (if (nth x.orders i).skills ≠ 0 then [(⟨4, i⟩ : Itm)] else []) = C at hit n3 c3
        have c4 := add49_c x (m ++ A ++ B ++ C) i (decide ((nth x.orders i).penalty = -1)) 10 (by simp; omega)
        rw [ifl] at c4
        generalize (if (nth x.orders i).penalty = -1 then [(⟨10, i⟩ : Itm)] else []) = D at hit n4 c4
        generalize hm1 : m ++ A = m1 at c2 c3 c4 ⊢
        generalize hm2 : m1 ++ B = m2 at c2 c3 c4 ⊢
        generalize hm3 : m2 ++ C = m3 at c3 c4 ⊢
        generalize hm4 : m3 ++ D = m4 at c4
        simp (disch := omega) only [hO, instO, ordO, go_sem, Nat.reduceAdd, Nat.reduceMul, Nat.reduceSub, Nat.reduceLeDiff, Nat.reduceLT, Nat.reduceEqDiff, Nat.reduceBEq, Nat.reduceBNe, Int.reduceNeg, Int.reduceToNat, Int.reduceLT, Int.reduceLE, Int.reduceEq, Int.reduceAdd, Int.reduceMul, Int.reduceSub, Nat.reduceSucc, Nat.reduceGT, Nat.reducePow, Int.reducePow, reduceCtorEq, ↓reduceIte]
        refine c2.useP (L := [_]) (by rfl) ?_ (by rfl) (by rfl)
        simp (disch := omega) only [hO, instO, ordO, go_sem, Nat.reduceAdd, Nat.reduceMul, Nat.reduceSub, Nat.reduceLeDiff, Nat.reduceLT, Nat.reduceEqDiff, Nat.reduceBEq, Nat.reduceBNe, Int.reduceNeg, Int.reduceToNat, Int.reduceLT, Int.reduceLE, Int.reduceEq, Int.reduceAdd, Int.reduceMul, Int.reduceSub, Nat.reduceSucc, Nat.reduceGT, Nat.reducePow, Int.reducePow, reduceCtorEq, ↓reduceIte]
        refine c3.useP (L := [_]) (by rfl) ?_ (by rfl) (by rfl)
        simp (disch := omega) only [hO, instO, ordO, go_sem, Nat.reduceAdd, Nat.reduceMul, Nat.reduceSub, Nat.reduceLeDiff, Nat.reduceLT, Nat.reduceEqDiff, Nat.reduceBEq, Nat.reduceBNe, Int.reduceNeg, Int.reduceToNat, Int.reduceLT, Int.reduceLE, Int.reduceEq, Int.reduceAdd, Int.reduceMul, Int.reduceSub, Nat.reduceSucc, Nat.reduceGT, Nat.reducePow, Int.reducePow, reduceCtorEq, ↓reduceIte]
        refine c4.useP (L := [_]) (by rfl) ?_ (by rfl) (by rfl)
        simp (disch := omega) only [hO, instO, ordO, go_sem, Nat.reduceAdd, Nat.reduceMul, Nat.reduceSub, Nat.reduceLeDiff, Nat.reduceLT, Nat.reduceEqDiff, Nat.reduceBEq, Nat.reduceBNe, Int.reduceNeg, Int.reduceToNat, Int.reduceLT, Int.reduceLE, Int.reduceEq, Int.reduceAdd, Int.reduceMul, Int.reduceSub, Nat.reduceSucc, Nat.reduceGT, Nat.reducePow, Int.reducePow, reduceCtorEq, ↓reduceIte]
        refine ⟨(i + 1, m4), ⟨by simp only; omega, ?_⟩, by simp only; omega, Weak.mk (by simp (disch := omega) only [hO, instO, ordO, go_sem, Nat.reduceAdd, Nat.reduceMul, Nat.reduceSub, Nat.reduceLeDiff, Nat.reduceLT, Nat.reduceEqDiff, Nat.reduceBEq, Nat.reduceBNe, Int.reduceNeg, Int.reduceToNat, Int.reduceLT, Int.reduceLE, Int.reduceEq, Int.reduceAdd, Int.reduceMul, Int.reduceSub, Nat.reduceSucc, Nat.reduceGT, Nat.reducePow, Int.reducePow, reduceCtorEq, ↓reduceIte])⟩
        simp only [hsc, hit, ← hm4, ← hm3, ← hm2, ← hm1, hm, List.append_assoc]
    · have hin : i = x.orders.length := by omega
      subst hin
      exact ⟨m, hm, 2, by simp (disch := omega) only [instO, go_sem, Nat.reduceAdd, Nat.reduceMul, Nat.reduceSub, Nat.reduceLeDiff, Nat.reduceLT, Nat.reduceEqDiff, Nat.reduceBEq, Nat.reduceBNe, Int.reduceNeg, Int.reduceToNat, Int.reduceLT, Int.reduceLE, Int.reduceEq, Int.reduceAdd, Int.reduceMul, Int.reduceSub, Nat.reduceSucc, Nat.reduceGT, Nat.reducePow, Int.reducePow, reduceCtorEq, ↓reduceIte]⟩
end Go.Proofs.Ytlbhefiehkmhjaa.K
set_option linter.unusedVariables false
set_option linter.unusedSimpArgs false
namespace Go.Proofs.Ytlbhefiehkmhjaa.K
open Go Go.AM Go.Proofs
set_option maxRecDepth 8000
set_option maxHeartbeats 8000000
def itT (k : Nat) : List Itm := (List.range k).flatMap fun (i : Nat) => [⟨3, i⟩, ⟨7, i⟩, ⟨8, i⟩, ⟨9, i⟩]
def itA1 (x : Inst) (i : Nat) : List Itm := if (!offB x (nth x.apart i).1 && !offB x (nth x.apart i).2) = true then [⟨5, i⟩] else []
def itA (x : Inst) (k : Nat) : List Itm := (List.range k).flatMap (itA1 x)
def itB1 (x : Inst) (i : Nat) : List Itm := if (!offB x (nth x.before i).2) = true then [⟨6, i⟩] else []
def itB (x : Inst) (k : Nat) : List Itm := (List.range k).flatMap (itB1 x)
def preI (x : Inst) : List Itm := itOs x x.orders.length ++ itT x.types.length ++ itA x x.apart.length ++ itB x x.before.length
theorem itT_succ (k) : itT (k + 1) = itT k ++ [⟨3, k⟩, ⟨7, k⟩, ⟨8, k⟩, ⟨9, k⟩] := by simp [itT, List.range_succ]
theorem itA_succ (x k) : itA x (k + 1) = itA x k ++ itA1 x k := by simp [itA, List.range_succ]
theorem itB_succ (x k) : itB x (k + 1) = itB x k ++ itB1 x k := by simp [itB, List.range_succ]
theorem itT_len : ∀ k, (itT k).length = 4 * k
  | 0 => by simp [itT]
  | k + 1 => by rw [itT_succ, List.length_append, itT_len k]; simp; omega
theorem itA_len (x) : ∀ k, (itA x k).length ≤ k
  | 0 => by simp [itA]
  | k + 1 => by
    have h1 := itA_len x k
    have h2 : (itA1 x k).length ≤ 1 := by unfold itA1; split <;> simp
    rw [itA_succ, List.length_append]; omega
theorem itB_len (x) : ∀ k, (itB x k).length ≤ k
  | 0 => by simp [itB]
  | k + 1 => by
    have h1 := itB_len x k
    have h2 : (itB1 x k).length ≤ 1 := by unfold itB1; split <;> simp
    rw [itB_succ, List.length_append]; omega
theorem cmpT_lt {a b : Itm} : cmpT a b < 0 ↔ a.kind < b.kind ∨ (a.kind = b.kind ∧ a.a < b.a) := by
  unfold cmpT
  split
  · rename_i h; rw [cmpI_zero] at h; rw [cmpI_lt]; omega
  · rename_i h; rw [cmpI_zero] at h; rw [cmpI_lt]; omega
theorem cmpT_swo : Go.Sort.SWO (ltOf cmpT) where
  irrefl x := by simp only [ltOf, decide_eq_false_iff_not, cmpT_lt]; omega
  trans x y z h1 h2 := by simp only [ltOf, decide_eq_true_eq, cmpT_lt] at *; omega
  ntrans x y z h1 h2 := by simp only [ltOf, decide_eq_false_iff_not, cmpT_lt] at *; omega
theorem sortItems_c (xs : List Itm) (hne : xs ≠ []) (hl : xs.length ≤ 1048576) {H : List AM.Obj} {o : Nat} (hH : H[o]? = some (.elems 2 (xs.map eItm))) :
    ACalls Try.prog 70 [.sl o 0 xs.length xs.length, .fn (.func 71) [] []] H fun y H' => y = .tup [] ∧ ∃ ys : List Itm, ys.Perm xs ∧ ys.Pairwise (fun a b => ¬ cmpT b a < 0) ∧ H' = H.set o (.elems 2 (ys.map eItm)) :=
  ACalls.sortFunc sortItems isF70 2 Try.isAgg55 Try.sizeOf55 eItm (fun x => ⟨_, rfl, rfl, rfl⟩) cmpT cmpT_swo 71 compare49_c xs hne (by omega) hH
theorem items_own (x : Inst) (ho : x.orders.length ≤ 1000) (ht : 0 < x.types.length ∧ x.types.length ≤ 1000) (ha : x.apart.length ≤ 1000) (hb : x.before.length ≤ 1000) : ACalls Try.prog 32 [.p (eInst x)] [] fun y H' => ∃ m : List Itm, (m.Perm (preI x) ∧ m.Pairwise (fun a b => ¬ cmpT b a < 0)) ∧ y = .sl 0 0 m.length m.length ∧ H' = [.elems 2 (m.map eItm)] := by
  refine acalls_freshE [] (fn := Try.f32) Try.func32 rfl isF32 ?_
  simp (disch := omega) only [Try.f32, go_sem, Nat.reduceAdd, Nat.reduceMul, Nat.reduceSub, Nat.reduceLeDiff, Nat.reduceLT, Nat.reduceEqDiff, Nat.reduceBEq, Nat.reduceBNe, Int.reduceNeg, Int.reduceToNat, Int.reduceLT, Int.reduceLE, Int.reduceEq, Int.reduceAdd, Int.reduceMul, Int.reduceSub, Nat.reduceSucc, Nat.reduceGT, Nat.reducePow, Int.reducePow, reduceCtorEq, ↓reduceIte]
  obtain ⟨os, hos⟩ : ∃ os, os = itOs x x.orders.length := ⟨_, rfl⟩
  have hosl := itOs_len x x.orders.length
  rw [← hos] at hosl
  refine ACalls.useF (S := 2) (n := os.length) (xs := os.map eItm) ((ofOrders_own x ho).mono fun y H' ⟨m, hm, h1, h2⟩ => by rw [hos, ← hm]; exact ⟨h1, h2⟩) ?_
  simp (disch := omega) only [go_sem, Nat.reduceAdd, Nat.reduceMul, Nat.reduceSub, Nat.reduceLeDiff, Nat.reduceLT, Nat.reduceEqDiff, Nat.reduceBEq, Nat.reduceBNe, Int.reduceNeg, Int.reduceToNat, Int.reduceLT, Int.reduceLE, Int.reduceEq, Int.reduceAdd, Int.reduceMul, Int.reduceSub, Nat.reduceSucc, Nat.reduceGT, Nat.reducePow, Int.reducePow, reduceCtorEq, ↓reduceIte]
  obtain ⟨ks, hks⟩ : ∃ ks : List Int, ks = [3, 7, 8, 9] := ⟨_, rfl⟩
  have hkl : ks.length = 4 := by rw [hks]; rfl
  have hke : (ks.map eI).length = ks.length := by simp
  refine awp_for [1, 15] (fun q : Nat × List Itm => [(3, .sl 1 0 q.2.length q.2.length), (16, .p (.int .i64 q.1))]) (fun q => [instO x, .elems 2 (q.2.map eItm)]) (fun q => q.1 ≤ x.types.length ∧ q.2 = os ++ itT q.1) (fun q => x.types.length - q.1) (0, os) ⟨by simp, by simp [itT]⟩ (Weak.mk ?_) ?_
  · simp (disch := omega) only [instO, go_sem, Nat.reduceAdd, Nat.reduceMul, Nat.reduceSub, Nat.reduceLeDiff, Nat.reduceLT, Nat.reduceEqDiff, Nat.reduceBEq, Nat.reduceBNe, Int.reduceNeg, Int.reduceToNat, Int.reduceLT, Int.reduceLE, Int.reduceEq, Int.reduceAdd, Int.reduceMul, Int.reduceSub, Nat.reduceSucc, Nat.reduceGT, Nat.reducePow, Int.reducePow, reduceCtorEq, ↓reduceIte]
  · rintro ⟨i, m⟩ ⟨hi, hm⟩
    simp only at hi hm
    have hml : m.length = os.length + 4 * i := by rw [hm, List.length_append, itT_len]
    simp (disch := omega) only [instO, go_sem, Nat.reduceAdd, Nat.reduceMul, Nat.reduceSub, Nat.reduceLeDiff, Nat.reduceLT, Nat.reduceEqDiff, Nat.reduceBEq, Nat.reduceBNe, Int.reduceNeg, Int.reduceToNat, Int.reduceLT, Int.reduceLE, Int.reduceEq, Int.reduceAdd, Int.reduceMul, Int.reduceSub, Nat.reduceSucc, Nat.reduceGT, Nat.reducePow, Int.reducePow, reduceCtorEq, ↓reduceIte]
    refine acond_b (fun h => ?_) (fun h => ?_) <;> (try simp only [decide_eq_true_eq, decide_eq_false_iff_not] at h) <;> simp (disch := omega) only [Sh.out h, go_sem, Nat.reduceAdd, Nat.reduceMul, Nat.reduceSub, Nat.reduceLeDiff, Nat.reduceLT, Nat.reduceEqDiff, Nat.reduceBEq, Nat.reduceBNe, Int.reduceNeg, Int.reduceToNat, Int.reduceLT, Int.reduceLE, Int.reduceEq, Int.reduceAdd, Int.reduceMul, Int.reduceSub, Nat.reduceSucc, Nat.reduceGT, Nat.reducePow, Int.reducePow, reduceCtorEq, ↓reduceIte]
    · have hi2 : i < x.types.length := by omega
      refine awp_for [1, 4, 15, 16, 20] (fun q : Nat × List Itm => [(3, .sl 1 0 q.2.length q.2.length), (19, .sl 2 0 ks.length ks.length), (21, .p (.int .i64 q.1))]) (fun q => [instO x, .elems 2 (q.2.map eItm), .elems 1 (ks.map eI)]) (fun q => q.1 ≤ 4 ∧ q.2 = m ++ (ks.take q.1).map fun c => (⟨c, i⟩ : Itm)) (fun q => 4 - q.1) (0, m) ⟨by simp, by simp⟩ (Weak.mk ?_) ?_
      · rw [hks]
        simp (disch := omega) only [instO, List.map_cons, List.map_nil, List.length_cons, List.length_nil, go_sem, Nat.reduceAdd, Nat.reduceMul, Nat.reduceSub, Nat.reduceLeDiff, Nat.reduceLT, Nat.reduceEqDiff, Nat.reduceBEq, Nat.reduceBNe, Int.reduceNeg, Int.reduceToNat, Int.reduceLT, Int.reduceLE, Int.reduceEq, Int.reduceAdd, Int.reduceMul, Int.reduceSub, Nat.reduceSucc, Nat.reduceGT, Nat.reducePow, Int.reducePow, reduceCtorEq, ↓reduceIte]
      · rintro ⟨k, m2⟩ ⟨hk, hm2⟩
        simp only at hk hm2
        have hm2l : m2.length = m.length + k := by rw [hm2]; simp; omega
        simp (disch := omega) only [instO, go_sem, Nat.reduceAdd, Nat.reduceMul, Nat.reduceSub, Nat.reduceLeDiff, Nat.reduceLT, Nat.reduceEqDiff, Nat.reduceBEq, Nat.reduceBNe, Int.reduceNeg, Int.reduceToNat, Int.reduceLT, Int.reduceLE, Int.reduceEq, Int.reduceAdd, Int.reduceMul, Int.reduceSub, Nat.reduceSucc, Nat.reduceGT, Nat.reducePow, Int.reducePow, reduceCtorEq, ↓reduceIte]
        refine acond_b (fun h2 => ?_) (fun h2 => ?_) <;> (try simp only [decide_eq_true_eq, decide_eq_false_iff_not] at h2) <;> simp (disch := omega) only [Sh.out h2, elt_map, go_sem, Nat.reduceAdd, Nat.reduceMul, Nat.reduceSub, Nat.reduceLeDiff, Nat.reduceLT, Nat.reduceEqDiff, Nat.reduceBEq, Nat.reduceBNe, Int.reduceNeg, Int.reduceToNat, Int.reduceLT, Int.reduceLE, Int.reduceEq, Int.reduceAdd, Int.reduceMul, Int.reduceSub, Nat.reduceSucc, Nat.reduceGT, Nat.reducePow, Int.reducePow, reduceCtorEq, ↓reduceIte]
        · have hk2 : k < ks.length := by omega
          have htk : ks.take (k + 1) = ks.take k ++ [nth ks k] := by rw [List.take_succ_eq_append_getElem hk2, nth_get hk2]
          simp (disch := omega) only [hk2, go_sem, Nat.reduceAdd, Nat.reduceMul, Nat.reduceSub, Nat.reduceLeDiff, Nat.reduceLT, Nat.reduceEqDiff, Nat.reduceBEq, Nat.reduceBNe, Int.reduceNeg, Int.reduceToNat, Int.reduceLT, Int.reduceLE, Int.reduceEq, Int.reduceAdd, Int.reduceMul, Int.reduceSub, Nat.reduceSucc, Nat.reduceGT, Nat.reducePow, Int.reducePow, reduceCtorEq, ↓reduceIte]
          exact ⟨(k + 1, m2 ++ [⟨nth ks k, i⟩]), ⟨by simp only; omega, by simp only [htk, hm2, List.map_append, List.append_assoc]; rfl⟩, by simp only; omega, Weak.mk (by simp (disch := omega) only [instO, go_sem, Nat.reduceAdd, Nat.reduceMul, Nat.reduceSub, Nat.reduceLeDiff, Nat.reduceLT, Nat.reduceEqDiff, Nat.reduceBEq, Nat.reduceBNe, Int.reduceNeg, Int.reduceToNat, Int.reduceLT, Int.reduceLE, Int.reduceEq, Int.reduceAdd, Int.reduceMul, Int.reduceSub, Nat.reduceSucc, Nat.reduceGT, Nat.reducePow, Int.reducePow, reduceCtorEq, ↓reduceIte])⟩
        · have hk4 : k = 4 := by omega
          subst hk4
          refine ⟨(i + 1, m2), ⟨by simp only; omega, ?_⟩, by simp only; omega, Weak.mk (by simp (disch := omega) only [instO, go_sem, Nat.reduceAdd, Nat.reduceMul, Nat.reduceSub, Nat.reduceLeDiff, Nat.reduceLT, Nat.reduceEqDiff, Nat.reduceBEq, Nat.reduceBNe, Int.reduceNeg, Int.reduceToNat, Int.reduceLT, Int.reduceLE, Int.reduceEq, Int.reduceAdd, Int.reduceMul, Int.reduceSub, Nat.reduceSucc, Nat.reduceGT, Nat.reducePow, Int.reducePow, reduceCtorEq, ↓reduceIte])⟩
          simp only [itT_succ, hm2, hm, List.append_assoc]
          rw [hks]; rfl
    · have hin : i = x.types.length := by omega
      subst hin
      clear hi h
      refine awp_for [1, 34, 35] (fun q : Nat × List Itm => [(3, .sl 1 0 q.2.length q.2.length), (36, .p (.int .i64 q.1))]) (fun q => [instO x, .elems 2 (q.2.map eItm)]) (fun q => q.1 ≤ x.apart.length ∧ q.2 = m ++ itA x q.1) (fun q => x.apart.length - q.1) (0, m) ⟨by simp, by simp [itA]⟩ (Weak.mk ?_) ?_
      · simp (disch := omega) only [instO, go_sem, Nat.reduceAdd, Nat.reduceMul, Nat.reduceSub, Nat.reduceLeDiff, Nat.reduceLT, Nat.reduceEqDiff, Nat.reduceBEq, Nat.reduceBNe, Int.reduceNeg, Int.reduceToNat, Int.reduceLT, Int.reduceLE, Int.reduceEq, Int.reduceAdd, Int.reduceMul, Int.reduceSub, Nat.reduceSucc, Nat.reduceGT, Nat.reducePow, Int.reducePow, reduceCtorEq, ↓reduceIte]
      · rintro ⟨i, m2⟩ ⟨hi, hm2⟩
        simp only at hi hm2
        have hm2l : m2.length ≤ m.length + i := by have := itA_len x i; rw [hm2, List.length_append]; omega
        simp (disch := omega) only [instO, go_sem, Nat.reduceAdd, Nat.reduceMul, Nat.reduceSub, Nat.reduceLeDiff, Nat.reduceLT, Nat.reduceEqDiff, Nat.reduceBEq, Nat.reduceBNe, Int.reduceNeg, Int.reduceToNat, Int.reduceLT, Int.reduceLE, Int.reduceEq, Int.reduceAdd, Int.reduceMul, Int.reduceSub, Nat.reduceSucc, Nat.reduceGT, Nat.reducePow, Int.reducePow, reduceCtorEq, ↓reduceIte]
        refine acond_b (fun h => ?_) (fun h => ?_) <;> (try simp only [decide_eq_true_eq, decide_eq_false_iff_not] at h) <;> simp (disch := omega) only [Sh.out h, go_sem, Nat.reduceAdd, Nat.reduceMul, Nat.reduceSub, Nat.reduceLeDiff, Nat.reduceLT, Nat.reduceEqDiff, Nat.reduceBEq, Nat.reduceBNe, Int.reduceNeg, Int.reduceToNat, Int.reduceLT, Int.reduceLE, Int.reduceEq, Int.reduceAdd, Int.reduceMul, Int.reduceSub, Nat.reduceSucc, Nat.reduceGT, Nat.reducePow, Int.reducePow, reduceCtorEq, ↓reduceIte]
        · have hi2 : i < x.apart.length := by omega
          refine (off49_c x (nth x.apart i).1 (by omega)).use ?_
          simp (disch := omega) only [go_sem, Nat.reduceAdd, Nat.reduceMul, Nat.reduceSub, Nat.reduceLeDiff, Nat.reduceLT, Nat.reduceEqDiff, Nat.reduceBEq, Nat.reduceBNe, Int.reduceNeg, Int.reduceToNat, Int.reduceLT, Int.reduceLE, Int.reduceEq, Int.reduceAdd, Int.reduceMul, Int.reduceSub, Nat.reduceSucc, Nat.reduceGT, Nat.reducePow, Int.reducePow, reduceCtorEq, ↓reduceIte]
          refine aguard_t (fun h2 => ?_) (fun h2 => ?_) <;> (try simp only [decide_eq_true_eq, decide_eq_false_iff_not] at h2) <;> simp (disch := omega) only [Sh.out h2, go_sem, Nat.reduceAdd, Nat.reduceMul, Nat.reduceSub, Nat.reduceLeDiff, Nat.reduceLT, Nat.reduceEqDiff, Nat.reduceBEq, Nat.reduceBNe, Int.reduceNeg, Int.reduceToNat, Int.reduceLT, Int.reduceLE, Int.reduceEq, Int.reduceAdd, Int.reduceMul, Int.reduceSub, Nat.reduceSucc, Nat.reduceGT, Nat.reducePow, Int.reducePow, reduceCtorEq, ↓reduceIte]
          · refine (off49_c x (nth x.apart i).2 (by omega)).use ?_
            simp (disch := omega) only [go_sem, Nat.reduceAdd, Nat.reduceMul, Nat.reduceSub, Nat.reduceLeDiff, Nat.reduceLT, Nat.reduceEqDiff, Nat.reduceBEq, Nat.reduceBNe, Int.reduceNeg, Int.reduceToNat, Int.reduceLT, Int.reduceLE, Int.reduceEq, Int.reduceAdd, Int.reduceMul, Int.reduceSub, Nat.reduceSucc, Nat.reduceGT, Nat.reducePow, Int.reducePow, reduceCtorEq, ↓reduceIte]
            refine acond_b (fun h3 => ?_) (fun h3 => ?_) <;> (try simp only [decide_eq_true_eq, decide_eq_false_iff_not] at h3) <;> simp (disch := omega) only [Sh.out h3, go_sem, Nat.reduceAdd, Nat.reduceMul, Nat.reduceSub, Nat.reduceLeDiff, Nat.reduceLT, Nat.reduceEqDiff, Nat.reduceBEq, Nat.reduceBNe, Int.reduceNeg, Int.reduceToNat, Int.reduceLT, Int.reduceLE, Int.reduceEq, Int.reduceAdd, Int.reduceMul, Int.reduceSub, Nat.reduceSucc, Nat.reduceGT, Nat.reducePow, Int.reducePow, reduceCtorEq, ↓reduceIte]
            · exact ⟨(i + 1, m2 ++ [⟨5, i⟩]), ⟨by simp only; omega, by simp only [itA_succ, itA1, h2, h3, Bool.and_self, if_true, hm2, List.append_assoc]⟩, by simp only; omega, Weak.mk (by simp (disch := omega) only [instO, go_sem, Nat.reduceAdd, Nat.reduceMul, Nat.reduceSub, Nat.reduceLeDiff, Nat.reduceLT, Nat.reduceEqDiff, Nat.reduceBEq, Nat.reduceBNe, Int.reduceNeg, Int.reduceToNat, Int.reduceLT, Int.reduceLE, Int.reduceEq, Int.reduceAdd, Int.reduceMul, Int.reduceSub, Nat.reduceSucc, Nat.reduceGT, Nat.reducePow, Int.reducePow, reduceCtorEq, ↓reduceIte])⟩
            · exact ⟨(i + 1, m2), ⟨by simp only; omega, by simp [itA_succ, itA1, h2, h3, hm2]⟩, by simp only; omega, Weak.mk (by simp (disch := omega) only [instO, go_sem, Nat.reduceAdd, Nat.reduceMul, Nat.reduceSub, Nat.reduceLeDiff, Nat.reduceLT, Nat.reduceEqDiff, Nat.reduceBEq, Nat.reduceBNe, Int.reduceNeg, Int.reduceToNat, Int.reduceLT, Int.reduceLE, Int.reduceEq, Int.reduceAdd, Int.reduceMul, Int.reduceSub, Nat.reduceSucc, Nat.reduceGT, Nat.reducePow, Int.reducePow, reduceCtorEq, ↓reduceIte])⟩
          · exact ⟨(i + 1, m2), ⟨by simp only; omega, by simp [itA_succ, itA1, h2, hm2]⟩, by simp only; omega, Weak.mk (by simp (disch := omega) only [instO, go_sem, Nat.reduceAdd, Nat.reduceMul, Nat.reduceSub, Nat.reduceLeDiff, Nat.reduceLT, Nat.reduceEqDiff, Nat.reduceBEq, Nat.reduceBNe, Int.reduceNeg, Int.reduceToNat, Int.reduceLT, Int.reduceLE, Int.reduceEq, Int.reduceAdd, Int.reduceMul, Int.reduceSub, Nat.reduceSucc, Nat.reduceGT, Nat.reducePow, Int.reducePow, reduceCtorEq, ↓reduceIte])⟩
        · have hin : i = x.apart.length := by omega
          subst hin
          clear hi h
          refine awp_for [1, 60, 61] (fun q : Nat × List Itm => [(3, .sl 1 0 q.2.length q.2.length), (62, .p (.int .i64 q.1))]) (fun q => [instO x, .elems 2 (q.2.map eItm)]) (fun q => q.1 ≤ x.before.length ∧ q.2 = m2 ++ itB x q.1) (fun q => x.before.length - q.1) (0, m2) ⟨by simp, by simp [itB]⟩ (Weak.mk ?_) ?_
          · simp (disch := omega) only [instO, go_sem, Nat.reduceAdd, Nat.reduceMul, Nat.reduceSub, Nat.reduceLeDiff, Nat.reduceLT, Nat.reduceEqDiff, Nat.reduceBEq, Nat.reduceBNe, Int.reduceNeg, Int.reduceToNat, Int.reduceLT, Int.reduceLE, Int.reduceEq, Int.reduceAdd, Int.reduceMul, Int.reduceSub, Nat.reduceSucc, Nat.reduceGT, Nat.reducePow, Int.reducePow, reduceCtorEq, ↓reduceIte]
          · rintro ⟨i, m3⟩ ⟨hi, hm3⟩
            simp only at hi hm3
            have hm3l : m3.length ≤ m2.length + i := by have := itB_len x i; rw [hm3, List.length_append]; omega
            simp (disch := omega) only [instO, go_sem, Nat.reduceAdd, Nat.reduceMul, Nat.reduceSub, Nat.reduceLeDiff, Nat.reduceLT, Nat.reduceEqDiff, Nat.reduceBEq, Nat.reduceBNe, Int.reduceNeg, Int.reduceToNat, Int.reduceLT, Int.reduceLE, Int.reduceEq, Int.reduceAdd, Int.reduceMul, Int.reduceSub, Nat.reduceSucc, Nat.reduceGT, Nat.reducePow, Int.reducePow, reduceCtorEq, ↓reduceIte]
            refine acond_b (fun h => ?_) (fun h => ?_) <;> (try simp only [decide_eq_true_eq, decide_eq_false_iff_not] at h) <;> simp (disch := omega) only [Sh.out h, go_sem, Nat.reduceAdd, Nat.reduceMul, Nat.reduceSub, Nat.reduceLeDiff, Nat.reduceLT, Nat.reduceEqDiff, Nat.reduceBEq, Nat.reduceBNe, Int.reduceNeg, Int.reduceToNat, Int.reduceLT, Int.reduceLE, Int.reduceEq, Int.reduceAdd, Int.reduceMul, Int.reduceSub, Nat.reduceSucc, Nat.reduceGT, Nat.reducePow, Int.reducePow, reduceCtorEq, ↓reduceIte]
            · have hi2 : i < x.before.length := by omega
              refine (off49_c x (nth x.before i).2 (by omega)).use ?_
              simp (disch := omega) only [go_sem, Nat.reduceAdd, Nat.reduceMul, Nat.reduceSub, Nat.reduceLeDiff, Nat.reduceLT, Nat.reduceEqDiff, Nat.reduceBEq, Nat.reduceBNe, Int.reduceNeg, Int.reduceToNat, Int.reduceLT, Int.reduceLE, Int.reduceEq, Int.reduceAdd, Int.reduceMul, Int.reduceSub, Nat.reduceSucc, Nat.reduceGT, Nat.reducePow, Int.reducePow, reduceCtorEq, ↓reduceIte]
              refine acond_b (fun h2 => ?_) (fun h2 => ?_) <;> (try simp only [decide_eq_true_eq, decide_eq_false_iff_not] at h2) <;> simp (disch := omega) only [Sh.out h2, go_sem, Nat.reduceAdd, Nat.reduceMul, Nat.reduceSub, Nat.reduceLeDiff, Nat.reduceLT, Nat.reduceEqDiff, Nat.reduceBEq, Nat.reduceBNe, Int.reduceNeg, Int.reduceToNat, Int.reduceLT, Int.reduceLE, Int.reduceEq, Int.reduceAdd, Int.reduceMul, Int.reduceSub, Nat.reduceSucc, Nat.reduceGT, Nat.reducePow, Int.reducePow, reduceCtorEq, ↓reduceIte]
              · exact ⟨(i + 1, m3 ++ [⟨6, i⟩]), ⟨by simp only; omega, by simp only [itB_succ, itB1, h2, if_true, hm3, List.append_assoc]⟩, by simp only; omega, Weak.mk (by simp (disch := omega) only [instO, go_sem, Nat.reduceAdd, Nat.reduceMul, Nat.reduceSub, Nat.reduceLeDiff, Nat.reduceLT, Nat.reduceEqDiff, Nat.reduceBEq, Nat.reduceBNe, Int.reduceNeg, Int.reduceToNat, Int.reduceLT, Int.reduceLE, Int.reduceEq, Int.reduceAdd, Int.reduceMul, Int.reduceSub, Nat.reduceSucc, Nat.reduceGT, Nat.reducePow, Int.reducePow, reduceCtorEq, ↓reduceIte])⟩
              · exact ⟨(i + 1, m3), ⟨by simp only; omega, by simp [itB_succ, itB1, h2, hm3]⟩, by simp only; omega, Weak.mk (by simp (disch := omega) only [instO, go_sem, Nat.reduceAdd, Nat.reduceMul, Nat.reduceSub, Nat.reduceLeDiff, Nat.reduceLT, Nat.reduceEqDiff, Nat.reduceBEq, Nat.reduceBNe, Int.reduceNeg, Int.reduceToNat, Int.reduceLT, Int.reduceLE, Int.reduceEq, Int.reduceAdd, Int.reduceMul, Int.reduceSub, Nat.reduceSucc, Nat.reduceGT, Nat.reducePow, Int.reducePow, reduceCtorEq, ↓reduceIte])⟩
            · have hin : i = x.before.length := by omega
              subst hin
              have hpre : m3 = preI x := by rw [hm3, hm2, hm, hos]; rfl
              have hne : m3 ≠ [] := fun e => by have := congrArg List.length hpre; rw [e] at this; simp [preI, itT_len] at this; omega
              refine (sortItems_c m3 hne (by omega) (H := _) (o := 1) rfl).mono ?_
              rintro y H' ⟨rfl, ys, h1, h2, rfl⟩
              have hyl : ys.length = m3.length := h1.length_eq
              simp (disch := omega) only [List.set_cons_succ, List.set_cons_zero, go_sem, Nat.reduceAdd, Nat.reduceMul, Nat.reduceSub, Nat.reduceLeDiff, Nat.reduceLT, Nat.reduceEqDiff, Nat.reduceBEq, Nat.reduceBNe, Int.reduceNeg, Int.reduceToNat, Int.reduceLT, Int.reduceLE, Int.reduceEq, Int.reduceAdd, Int.reduceMul, Int.reduceSub, Nat.reduceSucc, Nat.reduceGT, Nat.reducePow, Int.reducePow, reduceCtorEq, ↓reduceIte]
              rw [← hyl]
              exact ⟨ys, ⟨by rw [← hpre]; exact h1, h2⟩, 1, by simp (disch := omega) only [go_sem, Nat.reduceAdd, Nat.reduceMul, Nat.reduceSub, Nat.reduceLeDiff, Nat.reduceLT, Nat.reduceEqDiff, Nat.reduceBEq, Nat.reduceBNe, Int.reduceNeg, Int.reduceToNat, Int.reduceLT, Int.reduceLE, Int.reduceEq, Int.reduceAdd, Int.reduceMul, Int.reduceSub, Nat.reduceSucc, Nat.reduceGT, Nat.reducePow, Int.reducePow, reduceCtorEq, ↓reduceIte]⟩
end Go.Proofs.Ytlbhefiehkmhjaa.K
set_option linter.unusedVariables false
set_option linter.unusedSimpArgs false
namespace Go.Proofs.Ytlbhefiehkmhjaa.K
open Go Go.AM Go.Proofs
set_option maxRecDepth 8000
set_option maxHeartbeats 2000000
def actB (x : Inst) (i : Int) : Bool := decide (0 ≤ i) && decide (i < (x.orders.length : Int)) && !(nth x.orders i.toNat).off
theorem offB_act {x o} : offB x o = !actB x o := by
  unfold offB actB
  by_cases h1 : o < 0
  · have : ¬ 0 ≤ o := by omega
    simp [h1, this]
  · by_cases h2 : (x.orders.length : Int) ≤ o
    · have : ¬ o < (x.orders.length : Int) := by omega
      simp [h2, this]
    · have h3 : 0 ≤ o := by omega
      have h4 : o < (x.orders.length : Int) := by omega
      simp [h1, h2, h3, h4]
def ordB (o : Ord) (kind : Int) : Bool := if kind = 1 then decide (0 ≤ o.pick.place) else if kind = 2 then decide (0 ≤ o.drp.place) else if kind = 4 then decide (o.skills ≠ 0) else decide (o.penalty = -1)
def hasI (x : Inst) (v : Itm) : Bool :=
  if v.kind = 1 ∨ v.kind = 2 ∨ v.kind = 4 ∨ v.kind = 10 then actB x v.a && ordB (nth x.orders v.a.toNat) v.kind
  else if v.kind = 3 ∨ v.kind = 7 ∨ v.kind = 8 ∨ v.kind = 9 then decide (0 ≤ v.a) && decide (v.a < (x.types.length : Int))
  else if v.kind = 5 then decide (0 ≤ v.a) && decide (v.a < (x.apart.length : Int)) && actB x (nth x.apart v.a.toNat).1 && actB x (nth x.apart v.a.toNat).2
  else if v.kind = 6 then decide (0 ≤ v.a) && decide (v.a < (x.before.length : Int)) && actB x (nth x.before v.a.toNat).2
  else false
theorem mem_itO {x i} {v : Itm} : v ∈ itO x i ↔ (nth x.orders i).off = false ∧ v.a = (i : Int) ∧ ((v.kind = 1 ∧ (nth x.orders i).pick.place ≠ -1) ∨ (v.kind = 2 ∧ (nth x.orders i).drp.place ≠ -1) ∨ (v.kind = 4 ∧ (nth x.orders i).skills ≠ 0) ∨ (v.kind = 10 ∧ (nth x.orders i).penalty = -1)) := by
  have one : ∀ (c : Prop) [Decidable c] (w : Itm), v ∈ (if c then [w] else []) ↔ c ∧ v.kind = w.kind ∧ v.a = w.a := fun c _ w => by
    split <;> simp_all [itm_eq]
  unfold itO
  split
  · rename_i h; simp [h]
  · rename_i h
    simp only [List.mem_append, one]
    have h2 : (nth x.orders i).off = false := by simpa using h
    simp only [h2, true_and]
    constructor
    · rintro (((⟨h1, h2, h3⟩ | ⟨h1, h2, h3⟩) | ⟨h1, h2, h3⟩) | ⟨h1, h2, h3⟩)
      · exact ⟨h3, .inl ⟨h2, h1⟩⟩
      · exact ⟨h3, .inr (.inl ⟨h2, h1⟩)⟩
      · exact ⟨h3, .inr (.inr (.inl ⟨h2, h1⟩))⟩
      · exact ⟨h3, .inr (.inr (.inr ⟨h2, h1⟩))⟩
    · rintro ⟨h3, (⟨h2, h1⟩ | ⟨h2, h1⟩ | ⟨h2, h1⟩ | ⟨h2, h1⟩)⟩
      · exact .inl (.inl (.inl ⟨h1, h2, h3⟩))
      · exact .inl (.inl (.inr ⟨h1, h2, h3⟩))
      · exact .inl (.inr ⟨h1, h2, h3⟩)
      · exact .inr ⟨h1, h2, h3⟩
theorem mem_itT {n} {v : Itm} : v ∈ itT n ↔ (v.kind = 3 ∨ v.kind = 7 ∨ v.kind = 8 ∨ v.kind = 9) ∧ 0 ≤ v.a ∧ v.a < (n : Int) := by
  simp only [itT, List.mem_flatMap, List.mem_range, List.mem_cons, List.not_mem_nil, or_false, itm_eq]
  constructor
  · rintro ⟨i, hi, h⟩
    rcases h with ⟨h1, h2⟩ | ⟨h1, h2⟩ | ⟨h1, h2⟩ | ⟨h1, h2⟩ <;> refine ⟨by simp [h1], by omega, by omega⟩
  · rintro ⟨h, h1, h2⟩
    refine ⟨v.a.toNat, by omega, ?_⟩
    have : v.a = (v.a.toNat : Int) := by omega
    rcases h with h | h | h | h <;> simp [h, ← this]
theorem mem_itA {x n} {v : Itm} : v ∈ itA x n ↔ v.kind = 5 ∧ 0 ≤ v.a ∧ v.a < (n : Int) ∧ actB x (nth x.apart v.a.toNat).1 = true ∧ actB x (nth x.apart v.a.toNat).2 = true := by
  simp only [itA, List.mem_flatMap, List.mem_range, itA1, offB_act, Bool.not_not, Bool.and_eq_true]
  constructor
  · rintro ⟨i, hi, h⟩
    split at h
    · rename_i h3
      simp only [List.mem_cons, List.not_mem_nil, or_false, itm_eq] at h
      have e : v.a.toNat = i := by omega
      rw [e]
      exact ⟨h.1, by omega, by omega, h3⟩
    · simp at h
  · rintro ⟨h, h1, h2, h3⟩
    refine ⟨v.a.toNat, by omega, ?_⟩
    rw [if_pos h3]
    simp only [List.mem_cons, List.not_mem_nil, or_false, itm_eq]
    exact ⟨h, by omega⟩
theorem mem_itB {x n} {v : Itm} : v ∈ itB x n ↔ v.kind = 6 ∧ 0 ≤ v.a ∧ v.a < (n : Int) ∧ actB x (nth x.before v.a.toNat).2 = true := by
  simp only [itB, List.mem_flatMap, List.mem_range, itB1, offB_act, Bool.not_not]
  constructor
  · rintro ⟨i, hi, h⟩
    split at h
    · rename_i h3
      simp only [List.mem_cons, List.not_mem_nil, or_false, itm_eq] at h
      have e : v.a.toNat = i := by omega
      rw [e]
      exact ⟨h.1, by omega, by omega, h3⟩
    · simp at h
  · rintro ⟨h, h1, h2, h3⟩
    refine ⟨v.a.toNat, by omega, ?_⟩
    rw [if_pos h3]
    simp only [List.mem_cons, List.not_mem_nil, or_false, itm_eq]
    exact ⟨h, by omega⟩
theorem mem_itOs {x : Inst} (hp : Plc x) {v : Itm} : v ∈ itOs x x.orders.length ↔ (v.kind = 1 ∨ v.kind = 2 ∨ v.kind = 4 ∨ v.kind = 10) ∧ actB x v.a = true ∧ ordB (nth x.orders v.a.toNat) v.kind = true := by
  simp only [itOs, List.mem_flatMap, List.mem_range, mem_itO]
  constructor
  · rintro ⟨i, hi, h0, ha, h⟩
    have e : v.a.toNat = i := by omega
    have hpl := hp _ (nth_mem hi)
    rw [e]
    refine ⟨?_, by simp only [actB, e, h0, Bool.not_false, Bool.and_true, Bool.and_eq_true, decide_eq_true_eq]; omega, ?_⟩
    · rcases h with h | h | h | h <;> simp [h.1]
    · rcases h with h | h | h | h <;> simp only [ordB, h.1] <;> simp [h.2] <;> omega
  · rintro ⟨hk, ha, ho⟩
    simp only [actB, Bool.and_eq_true, decide_eq_true_eq, Bool.not_eq_true'] at ha
    refine ⟨v.a.toNat, by omega, ha.2, by omega, ?_⟩
    rcases hk with h | h | h | h <;> simp only [ordB, h] at ho <;> simp at ho <;> simp [h] <;> first | exact ho | omega
theorem mem_preI {x : Inst} (hp : Plc x) {v : Itm} : v ∈ preI x ↔ hasI x v = true := by
  simp only [preI, List.mem_append, mem_itOs hp, mem_itT, mem_itA, mem_itB, hasI]
  by_cases h1 : v.kind = 1 ∨ v.kind = 2 ∨ v.kind = 4 ∨ v.kind = 10
  · rw [if_pos h1]
    have h2 : ¬ (v.kind = 3 ∨ v.kind = 7 ∨ v.kind = 8 ∨ v.kind = 9) := by omega
    have h3 : ¬ v.kind = 5 := by omega
    have h4 : ¬ v.kind = 6 := by omega
    simp [h1, h2, h3, h4]
  · rw [if_neg h1]
    by_cases h2 : v.kind = 3 ∨ v.kind = 7 ∨ v.kind = 8 ∨ v.kind = 9
    · rw [if_pos h2]
      have h3 : ¬ v.kind = 5 := by omega
      have h4 : ¬ v.kind = 6 := by omega
      simp [h1, h2, h3, h4]
    · rw [if_neg h2]
      by_cases h3 : v.kind = 5
      · rw [if_pos h3]
        simp [h1, h2, h3, and_assoc]
      · rw [if_neg h3]
        by_cases h4 : v.kind = 6
        · rw [if_pos h4]
          simp [h1, h2, h3, h4, and_assoc]
        · simp [h1, h2, h3, h4]
theorem itO_nodup (x i) : (itO x i).Nodup := by
  unfold itO
  split
  · simp
  · split <;> split <;> split <;> split <;> simp
theorem flat_nodup {f : Nat → List Itm} {n : Nat} (h : ∀ i, (f i).Nodup) (ha : ∀ i, ∀ v ∈ f i, v.a = (i : Int)) : ((List.range n).flatMap f).Nodup := by
  rw [List.Nodup, List.pairwise_flatMap]
  refine ⟨fun i _ => h i, List.Pairwise.imp ?_ (List.nodup_range (n := n))⟩
  intro i j hij v hv w hw e
  have h1 := ha i v hv
  have h2 := ha j w hw
  rw [e] at h1
  omega
theorem preI_nodup {x : Inst} (hp : Plc x) : (preI x).Nodup := by
  have n1 : (itOs x x.orders.length).Nodup := flat_nodup (itO_nodup x) fun i v hv => (mem_itO.1 hv).2.1
  have n2 : (itT x.types.length).Nodup := flat_nodup (fun i => by simp) fun i v hv => by
    simp only [List.mem_cons, List.not_mem_nil, or_false] at hv
    rcases hv with rfl | rfl | rfl | rfl <;> rfl
  have n3 : (itA x x.apart.length).Nodup := flat_nodup (fun i => by unfold itA1; split <;> simp) fun i v hv => by
    unfold itA1 at hv; split at hv
    · simp at hv; rw [hv]
    · simp at hv
  have n4 : (itB x x.before.length).Nodup := flat_nodup (fun i => by unfold itB1; split <;> simp) fun i v hv => by
    unfold itB1 at hv; split at hv
    · simp at hv; rw [hv]
    · simp at hv
  rw [preI, List.nodup_append, List.nodup_append, List.nodup_append]
  refine ⟨⟨⟨n1, n2, fun v hv w hw e => ?_⟩, n3, fun v hv w hw e => ?_⟩, n4, fun v hv w hw e => ?_⟩
  · subst e
    have h1 := (mem_itOs hp).1 hv
    have h2 := mem_itT.1 hw
    omega
  · subst e
    have h2 := mem_itA.1 hw
    rcases List.mem_append.1 hv with hv | hv
    · have h1 := (mem_itOs hp).1 hv; omega
    · have h1 := mem_itT.1 hv; omega
  · subst e
    have h2 := mem_itB.1 hw
    rcases List.mem_append.1 hv with hv | hv
    · rcases List.mem_append.1 hv with hv | hv
      · have h1 := (mem_itOs hp).1 hv; omega
      · have h1 := mem_itT.1 hv; omega
    · have h1 := mem_itA.1 hv; omega
/-- the rules that are asked for, one by one -/
def ref1 (x : Inst) (k : Nat) (a : Nat) : List Itm := if hasI x ⟨k + 1, a⟩ = true then [⟨k + 1, a⟩] else []
def refK (x : Inst) (k n : Nat) : List Itm := (List.range n).flatMap (ref1 x k)
def mostI (x : Inst) : Nat := max (max (max x.orders.length x.types.length) x.apart.length) x.before.length
def refI (x : Inst) (n : Nat) : List Itm := (List.range n).flatMap fun k => refK x k (mostI x)
theorem refK_succ (x k n) : refK x k (n + 1) = refK x k n ++ ref1 x k n := by simp [refK, List.range_succ]
theorem refI_succ (x n) : refI x (n + 1) = refI x n ++ refK x n (mostI x) := by simp [refI, List.range_succ]
theorem mem_ref1 {x k a} {v : Itm} : v ∈ ref1 x k a ↔ hasI x v = true ∧ v.kind = (k : Int) + 1 ∧ v.a = (a : Int) := by
  unfold ref1
  constructor
  · intro h
    split at h
    · simp at h; subst h; rename_i h2; exact ⟨h2, rfl, rfl⟩
    · simp at h
  · rintro ⟨h1, h2, h3⟩
    have : v = ⟨(k : Int) + 1, a⟩ := itm_eq.2 ⟨h2, h3⟩
    subst this
    rw [if_pos h1]; simp
theorem mem_refI {x : Inst} {v : Itm} : v ∈ refI x 10 ↔ hasI x v = true := by
  simp only [refI, refK, List.mem_flatMap, List.mem_range, mem_ref1]
  constructor
  · rintro ⟨k, _, a, _, h, _⟩; exact h
  · intro h
    have hk : 1 ≤ v.kind ∧ v.kind ≤ 10 ∧ 0 ≤ v.a ∧ v.a < (mostI x : Int) := by
      unfold hasI at h
      unfold mostI
      split at h
      · simp only [actB, Bool.and_eq_true, decide_eq_true_eq] at h; omega
      · split at h
        · simp only [Bool.and_eq_true, decide_eq_true_eq] at h; omega
        · split at h
          · simp only [Bool.and_eq_true, decide_eq_true_eq] at h; omega
          · split at h
            · simp only [Bool.and_eq_true, decide_eq_true_eq] at h; omega
            · simp at h
    exact ⟨(v.kind - 1).toNat, by omega, v.a.toNat, by omega, h, by omega, by omega⟩
theorem refI_sorted (x : Inst) (n : Nat) : (refI x n).Pairwise fun a b => cmpT a b < 0 := by
  rw [refI, List.pairwise_flatMap]
  refine ⟨fun k _ => ?_, List.Pairwise.imp ?_ (List.pairwise_lt_range (n := n))⟩
  · rw [refK, List.pairwise_flatMap]
    refine ⟨fun a _ => by unfold ref1; split <;> simp, List.Pairwise.imp ?_ (List.pairwise_lt_range (n := _))⟩
    intro i j hij v hv w hw
    have h1 := mem_ref1.1 hv
    have h2 := mem_ref1.1 hw
    rw [cmpT_lt]; omega
  · intro i j hij v hv w hw
    simp only [refK, List.mem_flatMap, mem_ref1] at hv hw
    obtain ⟨_, _, h1⟩ := hv
    obtain ⟨_, _, h2⟩ := hw
    rw [cmpT_lt]; omega
theorem sorted_ext {α : Type} {R : α → α → Prop} (asym : ∀ a b, R a b → ¬ R b a) : ∀ {l m : List α}, l.Pairwise R → m.Pairwise R → (∀ v, v ∈ l ↔ v ∈ m) → l = m
  | [], [], _, _, _ => rfl
  | [], b :: m, _, _, h => absurd ((h b).2 (by simp)) (by simp)
  | a :: l, [], _, _, h => absurd ((h a).1 (by simp)) (by simp)
  | a :: l, b :: m, hl, hm, h => by
    rw [List.pairwise_cons] at hl hm
    have e : a = b := by
      rcases List.mem_cons.1 ((h a).1 (by simp)) with e | e
      · exact e
      · rcases List.mem_cons.1 ((h b).2 (by simp)) with e2 | e2
        · exact e2.symm
        · exact absurd (hl.1 b e2) (asym _ _ (hm.1 a e))
    subst e
    have irr : ¬ R a a := fun h => asym a a h h
    rw [sorted_ext asym hl.2 hm.2 fun v => ⟨fun hv => ?_, fun hv => ?_⟩]
    · rcases List.mem_cons.1 ((h v).1 (by simp [hv])) with e | e
      · subst e; exact absurd (hl.1 _ hv) irr
      · exact e
    · rcases List.mem_cons.1 ((h v).2 (by simp [hv])) with e | e
      · subst e; exact absurd (hm.1 _ hv) irr
      · exact e
theorem items_eq {x : Inst} (hp : Plc x) {m : List Itm} (h1 : m.Perm (preI x)) (h2 : m.Pairwise fun a b => ¬ cmpT b a < 0) : m = refI x 10 := by
  refine sorted_ext (R := fun a b => cmpT a b < 0) (fun a b h k => ?_) ?_ (refI_sorted x 10) fun v => ?_
  · rw [cmpT_lt] at h k; omega
  · have h3 : m.Nodup := h1.nodup_iff.2 (preI_nodup hp)
    have h4 := List.Pairwise.and h2 h3
    refine h4.imp ?_
    rintro a b ⟨h5, h6⟩
    rw [cmpT_lt] at h5 ⊢
    have : ¬ (a.kind = b.kind ∧ a.a = b.a) := fun h => h6 (itm_eq.2 h)
    omega
  · rw [h1.mem_iff, mem_preI hp, mem_refI]
theorem items_c (x : Inst) (hp : Plc x) (ho : x.orders.length ≤ 1000) (ht : 0 < x.types.length ∧ x.types.length ≤ 1000) (ha : x.apart.length ≤ 1000) (hb : x.before.length ≤ 1000) : ACalls Try.prog 32 [.p (eInst x)] [] fun y H' => y = .p (.list false ((refI x 10).map eItm)) ∧ H' = [] := by
  refine ACalls.frozen (S := 2) (n := (refI x 10).length) (by simp) ?_
  refine (items_own x ho ht ha hb).mono ?_
  rintro y H' ⟨m, ⟨h1, h2⟩, h3, h4⟩
  rw [items_eq hp h1 h2] at h3 h4
  exact ⟨h3, h4⟩
end Go.Proofs.Ytlbhefiehkmhjaa.K
set_option linter.unusedVariables false
set_option linter.unusedSimpArgs false
namespace Go.Proofs.Ytlbhefiehkmhjaa.K
open Go Go.AM Go.Proofs
set_option maxRecDepth 8000
set_option maxHeartbeats 8000000
/-- the first place of a rule, or -1 -/
def tIx (l : List Itm) (v : Itm) : Int := match l.findIdx? (fun w => decide (v = w)) with | some i => (i : Int) | none => -1
theorem tIx_at {l : List Itm} {v : Itm} {k : Nat} (hk : k < l.length) (h : v = nth l k) (hno : ∀ j, j < k → ¬ v = nth l j) : tIx l v = (k : Int) := by
  have : l.findIdx? (fun w => decide (v = w)) = some k := by
    rw [List.findIdx?_eq_some_iff_getElem]
    refine ⟨hk, by rw [← nth_get hk]; simpa using h, fun j hj => ?_⟩
    have h2 := hno j hj
    rw [nth_get (by omega)] at h2
    simpa using h2
  simp [tIx, this]
theorem tIx_no {l : List Itm} {v : Itm} (hno : ∀ j, j < l.length → ¬ v = nth l j) : tIx l v = -1 := by
  have : l.findIdx? (fun w => decide (v = w)) = none := by
    rw [List.findIdx?_eq_none_iff]
    intro x hx
    obtain ⟨j, hj, rfl⟩ := List.mem_iff_getElem.1 hx
    have := hno j hj
    rw [nth_get hj] at this
    simpa using this
  simp [tIx, this]
theorem tIx_mem {l : List Itm} {v : Itm} : 0 ≤ tIx l v ↔ v ∈ l := by
  unfold tIx
  cases h : l.findIdx? (fun w => decide (v = w)) with
  | none =>
    rw [List.findIdx?_eq_none_iff] at h
    have : v ∉ l := fun hm => by simpa using h v hm
    simp [this]
  | some i =>
    rw [List.findIdx?_eq_some_iff_getElem] at h
    obtain ⟨h1, h2, _⟩ := h
    have h3 : v = l[i] := by simpa using h2
    have : v ∈ l := by rw [h3]; exact List.getElem_mem _
    simp [this]
theorem index49_c (l : List Itm) (c : Bool) (v : Itm) (hl : l.length ≤ 1048576) : ACalls Try.prog 107 [.p (.list c (l.map eItm)), .p (eItm v)] [] fun x H' => x = .p (.int .i64 (tIx l v)) ∧ H' = [] := by
  refine acalls_pure (fn := Try.f107) Try.func107 rfl isF107 ?_
  simp (disch := omega) only [Try.f107, go_sem, Nat.reduceAdd, Nat.reduceMul, Nat.reduceSub, Nat.reduceLeDiff, Nat.reduceLT, Nat.reduceEqDiff, Nat.reduceBEq, Nat.reduceBNe, Int.reduceNeg, Int.reduceToNat, Int.reduceLT, Int.reduceLE, Int.reduceEq, Int.reduceAdd, Int.reduceMul, Int.reduceSub, Nat.reduceSucc, Nat.reduceGT, Nat.reducePow, Int.reducePow, reduceCtorEq, ↓reduceIte]
  refine awp_for [0, 3, 7] (fun k : Nat => [(8, .p (.int .i64 k))]) (fun _ => [.cells [.p (.int .i64 v.kind), .p (.int .i64 v.a)]]) (fun k => k ≤ l.length ∧ ∀ j, j < k → ¬ v = nth l j) (fun k => l.length - k) 0 (by simp) (Weak.mk ?_) ?_
  · simp (disch := omega) only [go_sem, Nat.reduceAdd, Nat.reduceMul, Nat.reduceSub, Nat.reduceLeDiff, Nat.reduceLT, Nat.reduceEqDiff, Nat.reduceBEq, Nat.reduceBNe, Int.reduceNeg, Int.reduceToNat, Int.reduceLT, Int.reduceLE, Int.reduceEq, Int.reduceAdd, Int.reduceMul, Int.reduceSub, Nat.reduceSucc, Nat.reduceGT, Nat.reducePow, Int.reducePow, reduceCtorEq, ↓reduceIte]
  · rintro k ⟨hk, hno⟩
    simp (disch := omega) only [go_sem, Nat.reduceAdd, Nat.reduceMul, Nat.reduceSub, Nat.reduceLeDiff, Nat.reduceLT, Nat.reduceEqDiff, Nat.reduceBEq, Nat.reduceBNe, Int.reduceNeg, Int.reduceToNat, Int.reduceLT, Int.reduceLE, Int.reduceEq, Int.reduceAdd, Int.reduceMul, Int.reduceSub, Nat.reduceSucc, Nat.reduceGT, Nat.reducePow, Int.reducePow, reduceCtorEq, ↓reduceIte]
    refine acond_b (fun h => ?_) (fun h => ?_) <;> (try simp only [decide_eq_true_eq, decide_eq_false_iff_not] at h) <;> simp (disch := omega) only [Sh.out h, go_sem, Nat.reduceAdd, Nat.reduceMul, Nat.reduceSub, Nat.reduceLeDiff, Nat.reduceLT, Nat.reduceEqDiff, Nat.reduceBEq, Nat.reduceBNe, Int.reduceNeg, Int.reduceToNat, Int.reduceLT, Int.reduceLE, Int.reduceEq, Int.reduceAdd, Int.reduceMul, Int.reduceSub, Nat.reduceSucc, Nat.reduceGT, Nat.reducePow, Int.reducePow, reduceCtorEq, ↓reduceIte]
    · have hk2 : k < l.length := by omega
      refine awp_drawnA mixed (by kernel_rfl) (by kernel_rfl) ?_
      simp (disch := omega) only [go_sem, Nat.reduceAdd, Nat.reduceMul, Nat.reduceSub, Nat.reduceLeDiff, Nat.reduceLT, Nat.reduceEqDiff, Nat.reduceBEq, Nat.reduceBNe, Int.reduceNeg, Int.reduceToNat, Int.reduceLT, Int.reduceLE, Int.reduceEq, Int.reduceAdd, Int.reduceMul, Int.reduceSub, Nat.reduceSucc, Nat.reduceGT, Nat.reducePow, Int.reducePow, reduceCtorEq, ↓reduceIte]
      refine acond_b (fun h2 => ?_) (fun h2 => ?_) <;> (try simp only [decide_eq_true_eq, decide_eq_false_iff_not] at h2) <;> simp (disch := omega) only [Sh.out h2, go_sem, Nat.reduceAdd, Nat.reduceMul, Nat.reduceSub, Nat.reduceLeDiff, Nat.reduceLT, Nat.reduceEqDiff, Nat.reduceBEq, Nat.reduceBNe, Int.reduceNeg, Int.reduceToNat, Int.reduceLT, Int.reduceLE, Int.reduceEq, Int.reduceAdd, Int.reduceMul, Int.reduceSub, Nat.reduceSucc, Nat.reduceGT, Nat.reducePow, Int.reducePow, reduceCtorEq, ↓reduceIte]
      · have : v = nth l k := by rw [itm_eq]; simpa using h2
        rw [tIx_at hk2 this hno]
      · have : ¬ v = nth l k := by rw [itm_eq]; simpa using h2
        exact ⟨k + 1, ⟨by omega, upto_iff.2 ⟨hno, this⟩⟩, by omega, Weak.mk (by simp (disch := omega) only [go_sem, Nat.reduceAdd, Nat.reduceMul, Nat.reduceSub, Nat.reduceLeDiff, Nat.reduceLT, Nat.reduceEqDiff, Nat.reduceBEq, Nat.reduceBNe, Int.reduceNeg, Int.reduceToNat, Int.reduceLT, Int.reduceLE, Int.reduceEq, Int.reduceAdd, Int.reduceMul, Int.reduceSub, Nat.reduceSucc, Nat.reduceGT, Nat.reducePow, Int.reducePow, reduceCtorEq, ↓reduceIte])⟩
    · have hkl : k = l.length := by omega
      subst hkl
      rw [tIx_no hno]
theorem contains49_c (l : List Itm) (c : Bool) (v : Itm) (hl : l.length ≤ 1048576) : ACalls Try.prog 72 [.p (.list c (l.map eItm)), .p (eItm v)] [] fun x H' => x = .p (.bool (decide (v ∈ l))) ∧ H' = [] := by
  refine acalls_pure (fn := Try.f72) Try.func72 rfl isF72 ?_
  simp (disch := omega) only [Try.f72, go_sem, Nat.reduceAdd, Nat.reduceMul, Nat.reduceSub, Nat.reduceLeDiff, Nat.reduceLT, Nat.reduceEqDiff, Nat.reduceBEq, Nat.reduceBNe, Int.reduceNeg, Int.reduceToNat, Int.reduceLT, Int.reduceLE, Int.reduceEq, Int.reduceAdd, Int.reduceMul, Int.reduceSub, Nat.reduceSucc, Nat.reduceGT, Nat.reducePow, Int.reducePow, reduceCtorEq, ↓reduceIte]
  refine (index49_c l c v hl).use ?_
  simp (disch := omega) only [go_sem, Nat.reduceAdd, Nat.reduceMul, Nat.reduceSub, Nat.reduceLeDiff, Nat.reduceLT, Nat.reduceEqDiff, Nat.reduceBEq, Nat.reduceBNe, Int.reduceNeg, Int.reduceToNat, Int.reduceLT, Int.reduceLE, Int.reduceEq, Int.reduceAdd, Int.reduceMul, Int.reduceSub, Nat.reduceSucc, Nat.reduceGT, Nat.reducePow, Int.reducePow, reduceCtorEq, ↓reduceIte]
  simp only [tIx_mem]
theorem cloneInts_own (l : List Int) (c : Bool) (hl : l.length ≤ 1048576) : ACalls Try.prog 111 [.p (.list c (l.map eI))] [] fun y H' => y = .sl 0 0 l.length l.length ∧ H' = [.elems 1 (l.map eI)] := by
  refine acalls_weak [1] (fn := Try.f111) Try.func111 rfl isF111 ?_
  simp (disch := omega) only [Try.f111, go_sem, Nat.reduceAdd, Nat.reduceMul, Nat.reduceSub, Nat.reduceLeDiff, Nat.reduceLT, Nat.reduceEqDiff, Nat.reduceBEq, Nat.reduceBNe, Int.reduceNeg, Int.reduceToNat, Int.reduceLT, Int.reduceLE, Int.reduceEq, Int.reduceAdd, Int.reduceMul, Int.reduceSub, Nat.reduceSucc, Nat.reduceGT, Nat.reducePow, Int.reducePow, reduceCtorEq, ↓reduceIte]
  refine awp_seq (awp_nilc (e := 3) (cl := c) (xs := l.map eI) Try.underlying72 (by rfl) (by simp) fun b hb => ?_)
  refine awp_sound [] _ _ _ _ ?_
  simp (disch := omega) only [go_sem, Nat.reduceAdd, Nat.reduceMul, Nat.reduceSub, Nat.reduceLeDiff, Nat.reduceLT, Nat.reduceEqDiff, Nat.reduceBEq, Nat.reduceBNe, Int.reduceNeg, Int.reduceToNat, Int.reduceLT, Int.reduceLE, Int.reduceEq, Int.reduceAdd, Int.reduceMul, Int.reduceSub, Nat.reduceSucc, Nat.reduceGT, Nat.reducePow, Int.reducePow, reduceCtorEq, ↓reduceIte]
  refine acond_b (fun h => ?_) (fun h => ?_) <;> (try simp only [decide_eq_true_eq, decide_eq_false_iff_not] at h) <;> simp (disch := omega) only [Sh.out h, go_sem, Nat.reduceAdd, Nat.reduceMul, Nat.reduceSub, Nat.reduceLeDiff, Nat.reduceLT, Nat.reduceEqDiff, Nat.reduceBEq, Nat.reduceBNe, Int.reduceNeg, Int.reduceToNat, Int.reduceLT, Int.reduceLE, Int.reduceEq, Int.reduceAdd, Int.reduceMul, Int.reduceSub, Nat.reduceSucc, Nat.reduceGT, Nat.reducePow, Int.reducePow, reduceCtorEq, ↓reduceIte]
  · have : l = [] := by simpa using hb h
    subst this
    exact ⟨_, _, Weak.nil 0 1 rfl (by simp), rfl, rfl⟩
  · refine awp_sound [] _ _ _ _ ?_
    simp (disch := omega) only [go_sem, Nat.reduceAdd, Nat.reduceMul, Nat.reduceSub, Nat.reduceLeDiff, Nat.reduceLT, Nat.reduceEqDiff, Nat.reduceBEq, Nat.reduceBNe, Int.reduceNeg, Int.reduceToNat, Int.reduceLT, Int.reduceLE, Int.reduceEq, Int.reduceAdd, Int.reduceMul, Int.reduceSub, Nat.reduceSucc, Nat.reduceGT, Nat.reducePow, Int.reducePow, reduceCtorEq, ↓reduceIte]
    exact ⟨_, _, Weak.mk (by simp (disch := omega) only [go_sem, Nat.reduceAdd, Nat.reduceMul, Nat.reduceSub, Nat.reduceLeDiff, Nat.reduceLT, Nat.reduceEqDiff, Nat.reduceBEq, Nat.reduceBNe, Int.reduceNeg, Int.reduceToNat, Int.reduceLT, Int.reduceLE, Int.reduceEq, Int.reduceAdd, Int.reduceMul, Int.reduceSub, Nat.reduceSucc, Nat.reduceGT, Nat.reducePow, Int.reducePow, reduceCtorEq, ↓reduceIte]), rfl, rfl⟩
theorem cloneTyps_own (l : List Typ) (c : Bool) (hl : l.length ≤ 1048576) : ACalls Try.prog 74 [.p (.list c (l.map eTyp))] [] fun y H' => y = .sl 0 0 l.length l.length ∧ H' = [.elems 14 (l.map eTyp)] := by
  refine acalls_weak [1] (fn := Try.f74) Try.func74 rfl isF74 ?_
  simp (disch := omega) only [Try.f74, go_sem, Nat.reduceAdd, Nat.reduceMul, Nat.reduceSub, Nat.reduceLeDiff, Nat.reduceLT, Nat.reduceEqDiff, Nat.reduceBEq, Nat.reduceBNe, Int.reduceNeg, Int.reduceToNat, Int.reduceLT, Int.reduceLE, Int.reduceEq, Int.reduceAdd, Int.reduceMul, Int.reduceSub, Nat.reduceSucc, Nat.reduceGT, Nat.reducePow, Int.reducePow, reduceCtorEq, ↓reduceIte]
  refine awp_seq (awp_nilc (e := 94) (cl := c) (xs := l.map eTyp) Try.underlying26 (by rfl) (by simp) fun b hb => ?_)
  refine awp_sound [] _ _ _ _ ?_
  simp (disch := omega) only [go_sem, Nat.reduceAdd, Nat.reduceMul, Nat.reduceSub, Nat.reduceLeDiff, Nat.reduceLT, Nat.reduceEqDiff, Nat.reduceBEq, Nat.reduceBNe, Int.reduceNeg, Int.reduceToNat, Int.reduceLT, Int.reduceLE, Int.reduceEq, Int.reduceAdd, Int.reduceMul, Int.reduceSub, Nat.reduceSucc, Nat.reduceGT, Nat.reducePow, Int.reducePow, reduceCtorEq, ↓reduceIte]
  refine acond_b (fun h => ?_) (fun h => ?_) <;> (try simp only [decide_eq_true_eq, decide_eq_false_iff_not] at h) <;> simp (disch := omega) only [Sh.out h, go_sem, Nat.reduceAdd, Nat.reduceMul, Nat.reduceSub, Nat.reduceLeDiff, Nat.reduceLT, Nat.reduceEqDiff, Nat.reduceBEq, Nat.reduceBNe, Int.reduceNeg, Int.reduceToNat, Int.reduceLT, Int.reduceLE, Int.reduceEq, Int.reduceAdd, Int.reduceMul, Int.reduceSub, Nat.reduceSucc, Nat.reduceGT, Nat.reducePow, Int.reducePow, reduceCtorEq, ↓reduceIte]
  · have : l = [] := by simpa using hb h
    subst this
    exact ⟨_, _, Weak.nil 0 14 rfl (by simp), rfl, rfl⟩
  · refine awp_sound [] _ _ _ _ ?_
    simp (disch := omega) only [go_sem, Nat.reduceAdd, Nat.reduceMul, Nat.reduceSub, Nat.reduceLeDiff, Nat.reduceLT, Nat.reduceEqDiff, Nat.reduceBEq, Nat.reduceBNe, Int.reduceNeg, Int.reduceToNat, Int.reduceLT, Int.reduceLE, Int.reduceEq, Int.reduceAdd, Int.reduceMul, Int.reduceSub, Nat.reduceSucc, Nat.reduceGT, Nat.reducePow, Int.reducePow, reduceCtorEq, ↓reduceIte]
    exact ⟨_, _, Weak.mk (by simp (disch := omega) only [go_sem, Nat.reduceAdd, Nat.reduceMul, Nat.reduceSub, Nat.reduceLeDiff, Nat.reduceLT, Nat.reduceEqDiff, Nat.reduceBEq, Nat.reduceBNe, Int.reduceNeg, Int.reduceToNat, Int.reduceLT, Int.reduceLE, Int.reduceEq, Int.reduceAdd, Int.reduceMul, Int.reduceSub, Nat.reduceSucc, Nat.reduceGT, Nat.reducePow, Int.reducePow, reduceCtorEq, ↓reduceIte]), rfl, rfl⟩
theorem cloneOrds_own (l : List Ord) (c : Bool) (hl : l.length ≤ 1048576) : ACalls Try.prog 75 [.p (.list c (l.map eOrd))] [] fun y H' => y = .sl 0 0 l.length l.length ∧ H' = [.elems 16 (l.map eOrd)] := by
  refine acalls_weak [1] (fn := Try.f75) Try.func75 rfl isF75 ?_
  simp (disch := omega) only [Try.f75, go_sem, Nat.reduceAdd, Nat.reduceMul, Nat.reduceSub, Nat.reduceLeDiff, Nat.reduceLT, Nat.reduceEqDiff, Nat.reduceBEq, Nat.reduceBNe, Int.reduceNeg, Int.reduceToNat, Int.reduceLT, Int.reduceLE, Int.reduceEq, Int.reduceAdd, Int.reduceMul, Int.reduceSub, Nat.reduceSucc, Nat.reduceGT, Nat.reducePow, Int.reducePow, reduceCtorEq, ↓reduceIte]
  refine awp_seq (awp_nilc (e := 76) (cl := c) (xs := l.map eOrd) Try.underlying27 (by rfl) (by simp) fun b hb => ?_)
  refine awp_sound [] _ _ _ _ ?_
  simp (disch := omega) only [go_sem, Nat.reduceAdd, Nat.reduceMul, Nat.reduceSub, Nat.reduceLeDiff, Nat.reduceLT, Nat.reduceEqDiff, Nat.reduceBEq, Nat.reduceBNe, Int.reduceNeg, Int.reduceToNat, Int.reduceLT, Int.reduceLE, Int.reduceEq, Int.reduceAdd, Int.reduceMul, Int.reduceSub, Nat.reduceSucc, Nat.reduceGT, Nat.reducePow, Int.reducePow, reduceCtorEq, ↓reduceIte]
  refine acond_b (fun h => ?_) (fun h => ?_) <;> (try simp only [decide_eq_true_eq, decide_eq_false_iff_not] at h) <;> simp (disch := omega) only [Sh.out h, go_sem, Nat.reduceAdd, Nat.reduceMul, Nat.reduceSub, Nat.reduceLeDiff, Nat.reduceLT, Nat.reduceEqDiff, Nat.reduceBEq, Nat.reduceBNe, Int.reduceNeg, Int.reduceToNat, Int.reduceLT, Int.reduceLE, Int.reduceEq, Int.reduceAdd, Int.reduceMul, Int.reduceSub, Nat.reduceSucc, Nat.reduceGT, Nat.reducePow, Int.reducePow, reduceCtorEq, ↓reduceIte]
  · have : l = [] := by simpa using hb h
    subst this
    exact ⟨_, _, Weak.nil 0 16 rfl (by simp), rfl, rfl⟩
  · refine awp_sound [] _ _ _ _ ?_
    simp (disch := omega) only [go_sem, Nat.reduceAdd, Nat.reduceMul, Nat.reduceSub, Nat.reduceLeDiff, Nat.reduceLT, Nat.reduceEqDiff, Nat.reduceBEq, Nat.reduceBNe, Int.reduceNeg, Int.reduceToNat, Int.reduceLT, Int.reduceLE, Int.reduceEq, Int.reduceAdd, Int.reduceMul, Int.reduceSub, Nat.reduceSucc, Nat.reduceGT, Nat.reducePow, Int.reducePow, reduceCtorEq, ↓reduceIte]
    exact ⟨_, _, Weak.mk (by simp (disch := omega) only [go_sem, Nat.reduceAdd, Nat.reduceMul, Nat.reduceSub, Nat.reduceLeDiff, Nat.reduceLT, Nat.reduceEqDiff, Nat.reduceBEq, Nat.reduceBNe, Int.reduceNeg, Int.reduceToNat, Int.reduceLT, Int.reduceLE, Int.reduceEq, Int.reduceAdd, Int.reduceMul, Int.reduceSub, Nat.reduceSucc, Nat.reduceGT, Nat.reducePow, Int.reducePow, reduceCtorEq, ↓reduceIte]), rfl, rfl⟩
/-- the pairs whose rules are not left out -/
def keepP (l : List (Int × Int)) (w : List Itm) (kind : Int) (k : Nat) : List (Int × Int) := (List.range k).flatMap fun (i : Nat) => if (⟨kind, i⟩ : Itm) ∈ w then [] else [nth l i]
theorem keepP_succ (l w kind k) : keepP l w kind (k + 1) = keepP l w kind k ++ if (⟨kind, k⟩ : Itm) ∈ w then [] else [nth l k] := by simp [keepP, List.range_succ]
theorem keepP_len (l w kind) : ∀ k, (keepP l w kind k).length ≤ k
  | 0 => by simp [keepP]
  | k + 1 => by
    have := keepP_len l w kind k
    rw [keepP_succ, List.length_append]
    split <;> simp <;> omega
theorem pairs49_c (l : List (Int × Int)) (w : List Itm) (kind : Int) (c d : Bool) (hl : l.length ≤ 1048576) (hw : w.length ≤ 1048576) : ACalls Try.prog 78 [.p (.list c (l.map eP)), .p (.list d (w.map eItm)), .p (.int .i64 kind)] [] fun y H' => y = .p (.list false ((keepP l w kind l.length).map eP)) ∧ H' = [] := by
  refine ACalls.frozen (S := 2) (n := (keepP l w kind l.length).length) (by simp) ?_
  suffices hh : ACalls Try.prog 78 [.p (.list c (l.map eP)), .p (.list d (w.map eItm)), .p (.int .i64 kind)] [] fun y H' => ∃ m : List (Int × Int), m = keepP l w kind l.length ∧ y = .sl 0 0 m.length m.length ∧ H' = [.elems 2 (m.map eP)] by
    refine hh.mono ?_
    rintro x H' ⟨m, rfl, h1, h2⟩
    exact ⟨h1, h2⟩
  refine acalls_freshE [2] (fn := Try.f78) Try.func78 rfl isF78 ?_
  simp (disch := omega) only [Try.f78, go_sem, Nat.reduceAdd, Nat.reduceMul, Nat.reduceSub, Nat.reduceLeDiff, Nat.reduceLT, Nat.reduceEqDiff, Nat.reduceBEq, Nat.reduceBNe, Int.reduceNeg, Int.reduceToNat, Int.reduceLT, Int.reduceLE, Int.reduceEq, Int.reduceAdd, Int.reduceMul, Int.reduceSub, Nat.reduceSucc, Nat.reduceGT, Nat.reducePow, Int.reducePow, reduceCtorEq, ↓reduceIte]
  refine awp_weak (Weak.ofNil 7 2 (by simp (disch := omega) only [go_sem, Nat.reduceAdd, Nat.reduceMul, Nat.reduceSub, Nat.reduceLeDiff, Nat.reduceLT, Nat.reduceEqDiff, Nat.reduceBEq, Nat.reduceBNe, Int.reduceNeg, Int.reduceToNat, Int.reduceLT, Int.reduceLE, Int.reduceEq, Int.reduceAdd, Int.reduceMul, Int.reduceSub, Nat.reduceSucc, Nat.reduceGT, Nat.reducePow, Int.reducePow, reduceCtorEq, ↓reduceIte]) (by simp) (Weak.refl _ _ _)) ?_
  refine awp_sound [] _ _ _ _ ?_
  simp (disch := omega) only [go_sem, Nat.reduceAdd, Nat.reduceMul, Nat.reduceSub, Nat.reduceLeDiff, Nat.reduceLT, Nat.reduceEqDiff, Nat.reduceBEq, Nat.reduceBNe, Int.reduceNeg, Int.reduceToNat, Int.reduceLT, Int.reduceLE, Int.reduceEq, Int.reduceAdd, Int.reduceMul, Int.reduceSub, Nat.reduceSucc, Nat.reduceGT, Nat.reducePow, Int.reducePow, reduceCtorEq, ↓reduceIte]
  refine awp_for [1, 2, 10, 11] (fun q : Nat × List (Int × Int) => [(7, .sl 0 0 q.2.length q.2.length), (12, .p (.int .i64 q.1))]) (fun q => [.elems 2 (q.2.map eP)]) (fun q => q.1 ≤ l.length ∧ q.2 = keepP l w kind q.1) (fun q => l.length - q.1) (0, []) ⟨by simp, by simp [keepP]⟩ (Weak.mk ?_) ?_
  · simp (disch := omega) only [go_sem, Nat.reduceAdd, Nat.reduceMul, Nat.reduceSub, Nat.reduceLeDiff, Nat.reduceLT, Nat.reduceEqDiff, Nat.reduceBEq, Nat.reduceBNe, Int.reduceNeg, Int.reduceToNat, Int.reduceLT, Int.reduceLE, Int.reduceEq, Int.reduceAdd, Int.reduceMul, Int.reduceSub, Nat.reduceSucc, Nat.reduceGT, Nat.reducePow, Int.reducePow, reduceCtorEq, ↓reduceIte]
  · rintro ⟨k, m⟩ ⟨hk, hm⟩
    simp only at hk hm
    have hml := keepP_len l w kind k
    rw [← hm] at hml
    have hs := keepP_succ l w kind k
    simp (disch := omega) only [go_sem, Nat.reduceAdd, Nat.reduceMul, Nat.reduceSub, Nat.reduceLeDiff, Nat.reduceLT, Nat.reduceEqDiff, Nat.reduceBEq, Nat.reduceBNe, Int.reduceNeg, Int.reduceToNat, Int.reduceLT, Int.reduceLE, Int.reduceEq, Int.reduceAdd, Int.reduceMul, Int.reduceSub, Nat.reduceSucc, Nat.reduceGT, Nat.reducePow, Int.reducePow, reduceCtorEq, ↓reduceIte]
    refine acond_b (fun h => ?_) (fun h => ?_) <;> (try simp only [decide_eq_true_eq, decide_eq_false_iff_not] at h) <;> simp (disch := omega) only [Sh.out h, go_sem, Nat.reduceAdd, Nat.reduceMul, Nat.reduceSub, Nat.reduceLeDiff, Nat.reduceLT, Nat.reduceEqDiff, Nat.reduceBEq, Nat.reduceBNe, Int.reduceNeg, Int.reduceToNat, Int.reduceLT, Int.reduceLE, Int.reduceEq, Int.reduceAdd, Int.reduceMul, Int.reduceSub, Nat.reduceSucc, Nat.reduceGT, Nat.reducePow, Int.reducePow, reduceCtorEq, ↓reduceIte]
    · have hk2 : k < l.length := by omega
      refine (contains49_c w d ⟨kind, k⟩ hw).use ?_
      simp (disch := omega) only [go_sem, Nat.reduceAdd, Nat.reduceMul, Nat.reduceSub, Nat.reduceLeDiff, Nat.reduceLT, Nat.reduceEqDiff, Nat.reduceBEq, Nat.reduceBNe, Int.reduceNeg, Int.reduceToNat, Int.reduceLT, Int.reduceLE, Int.reduceEq, Int.reduceAdd, Int.reduceMul, Int.reduceSub, Nat.reduceSucc, Nat.reduceGT, Nat.reducePow, Int.reducePow, reduceCtorEq, ↓reduceIte]
      refine acond_b (fun h2 => ?_) (fun h2 => ?_) <;> (try simp only [decide_eq_true_eq, decide_eq_false_iff_not] at h2) <;> simp (disch := omega) only [Sh.out h2, go_sem, Nat.reduceAdd, Nat.reduceMul, Nat.reduceSub, Nat.reduceLeDiff, Nat.reduceLT, Nat.reduceEqDiff, Nat.reduceBEq, Nat.reduceBNe, Int.reduceNeg, Int.reduceToNat, Int.reduceLT, Int.reduceLE, Int.reduceEq, Int.reduceAdd, Int.reduceMul, Int.reduceSub, Nat.reduceSucc, Nat.reduceGT, Nat.reducePow, Int.reducePow, reduceCtorEq, ↓reduceIte]
      · have h3 : ¬ (⟨kind, k⟩ : Itm) ∈ w := by simpa using h2
        exact ⟨(k + 1, m ++ [nth l k]), ⟨by simp only; omega, by simp only [hs, h3, if_false, hm]⟩, by simp only; omega, Weak.mk (by simp (disch := omega) only [go_sem, Nat.reduceAdd, Nat.reduceMul, Nat.reduceSub, Nat.reduceLeDiff, Nat.reduceLT, Nat.reduceEqDiff, Nat.reduceBEq, Nat.reduceBNe, Int.reduceNeg, Int.reduceToNat, Int.reduceLT, Int.reduceLE, Int.reduceEq, Int.reduceAdd, Int.reduceMul, Int.reduceSub, Nat.reduceSucc, Nat.reduceGT, Nat.reducePow, Int.reducePow, reduceCtorEq, ↓reduceIte])⟩
      · have h3 : (⟨kind, k⟩ : Itm) ∈ w := by simpa using h2
        exact ⟨(k + 1, m), ⟨by simp only; omega, by simp only [hs, h3, if_true, hm, List.append_nil]⟩, by simp only; omega, Weak.mk (by simp (disch := omega) only [go_sem, Nat.reduceAdd, Nat.reduceMul, Nat.reduceSub, Nat.reduceLeDiff, Nat.reduceLT, Nat.reduceEqDiff, Nat.reduceBEq, Nat.reduceBNe, Int.reduceNeg, Int.reduceToNat, Int.reduceLT, Int.reduceLE, Int.reduceEq, Int.reduceAdd, Int.reduceMul, Int.reduceSub, Nat.reduceSucc, Nat.reduceGT, Nat.reducePow, Int.reducePow, reduceCtorEq, ↓reduceIte])⟩
    · have hkl : k = l.length := by omega
      subst hkl
      exact ⟨m, hm, 0, by simp (disch := omega) only [go_sem, Nat.reduceAdd, Nat.reduceMul, Nat.reduceSub, Nat.reduceLeDiff, Nat.reduceLT, Nat.reduceEqDiff, Nat.reduceBEq, Nat.reduceBNe, Int.reduceNeg, Int.reduceToNat, Int.reduceLT, Int.reduceLE, Int.reduceEq, Int.reduceAdd, Int.reduceMul, Int.reduceSub, Nat.reduceSucc, Nat.reduceGT, Nat.reducePow, Int.reducePow, reduceCtorEq, ↓reduceIte]⟩
/-- an order without a rule -/
def ordW (o : Ord) (kind : Int) : Ord :=
  if kind = 1 then { o with pick := { o.pick with cls := 4096 } }
  else if kind = 2 then { o with drp := { o.drp with cls := 4096 } }
  else if kind = 4 then { o with skills := 0 }
  else if kind = 10 then { o with penalty := 0 }
  else o
theorem set_map {α β : Type} {f : α → β} {l : List α} {i : Nat} {a : α} : (l.map f).set i (f a) = (l.set i a).map f := by rw [List.map_set]
theorem openP_c (os : List Ord) (i : Nat) (hi : i < os.length) : ACalls Try.prog 110 [.ep 0 i 2 os.length] [.elems 16 (os.map eOrd)] fun y H' => y = .tup [] ∧ H' = [.elems 16 ((os.set i (ordW (nth os i) 1)).map eOrd)] := by
  refine acalls_weak [] (fn := Try.f110) Try.func110 rfl isF110 ?_
  simp (disch := omega) only [Try.f110, go_sem, Nat.reduceAdd, Nat.reduceMul, Nat.reduceSub, Nat.reduceLeDiff, Nat.reduceLT, Nat.reduceEqDiff, Nat.reduceBEq, Nat.reduceBNe, Int.reduceNeg, Int.reduceToNat, Int.reduceLT, Int.reduceLE, Int.reduceEq, Int.reduceAdd, Int.reduceMul, Int.reduceSub, Nat.reduceSucc, Nat.reduceGT, Nat.reducePow, Int.reducePow, reduceCtorEq, ↓reduceIte]
  exact ⟨_, _, Weak.refl _ _ _, rfl, by rw [← set_map]; rfl⟩
theorem openD_c (os : List Ord) (i : Nat) (hi : i < os.length) : ACalls Try.prog 110 [.ep 0 i 6 os.length] [.elems 16 (os.map eOrd)] fun y H' => y = .tup [] ∧ H' = [.elems 16 ((os.set i (ordW (nth os i) 2)).map eOrd)] := by
  refine acalls_weak [] (fn := Try.f110) Try.func110 rfl isF110 ?_
  simp (disch := omega) only [Try.f110, go_sem, Nat.reduceAdd, Nat.reduceMul, Nat.reduceSub, Nat.reduceLeDiff, Nat.reduceLT, Nat.reduceEqDiff, Nat.reduceBEq, Nat.reduceBNe, Int.reduceNeg, Int.reduceToNat, Int.reduceLT, Int.reduceLE, Int.reduceEq, Int.reduceAdd, Int.reduceMul, Int.reduceSub, Nat.reduceSucc, Nat.reduceGT, Nat.reducePow, Int.reducePow, reduceCtorEq, ↓reduceIte]
  exact ⟨_, _, Weak.refl _ _ _, rfl, by rw [← set_map]; rfl⟩
theorem nth_self {α : Type} [Inhabited α] {l : List α} {i : Nat} (h : i < l.length) : l.set i (nth l i) = l := by
  rw [nth_get h]; exact List.set_getElem_self h
theorem order49_c (os : List Ord) (i : Nat) (k : Int) (hi : i < os.length) : ACalls Try.prog 76 [.ep 0 i 0 os.length, .p (.int .i64 k)] [.elems 16 (os.map eOrd)] fun y H' => y = .tup [] ∧ H' = [.elems 16 ((os.set i (ordW (nth os i) k)).map eOrd)] := by
  refine acalls_weak [] (fn := Try.f76) Try.func76 rfl isF76 ?_
  simp (disch := omega) only [Try.f76, go_sem, Nat.reduceAdd, Nat.reduceMul, Nat.reduceSub, Nat.reduceLeDiff, Nat.reduceLT, Nat.reduceEqDiff, Nat.reduceBEq, Nat.reduceBNe, Int.reduceNeg, Int.reduceToNat, Int.reduceLT, Int.reduceLE, Int.reduceEq, Int.reduceAdd, Int.reduceMul, Int.reduceSub, Nat.reduceSucc, Nat.reduceGT, Nat.reducePow, Int.reducePow, reduceCtorEq, ↓reduceIte]
  refine acond_b (fun h1 => ?_) (fun h1 => ?_) <;> (try simp only [decide_eq_true_eq, decide_eq_false_iff_not] at h1) <;> simp (disch := omega) only [Sh.out h1, go_sem, Nat.reduceAdd, Nat.reduceMul, Nat.reduceSub, Nat.reduceLeDiff, Nat.reduceLT, Nat.reduceEqDiff, Nat.reduceBEq, Nat.reduceBNe, Int.reduceNeg, Int.reduceToNat, Int.reduceLT, Int.reduceLE, Int.reduceEq, Int.reduceAdd, Int.reduceMul, Int.reduceSub, Nat.reduceSucc, Nat.reduceGT, Nat.reducePow, Int.reducePow, reduceCtorEq, ↓reduceIte]
  · subst h1
    refine (openP_c os i hi).useH ?_
    simp (disch := omega) only [go_sem, Nat.reduceAdd, Nat.reduceMul, Nat.reduceSub, Nat.reduceLeDiff, Nat.reduceLT, Nat.reduceEqDiff, Nat.reduceBEq, Nat.reduceBNe, Int.reduceNeg, Int.reduceToNat, Int.reduceLT, Int.reduceLE, Int.reduceEq, Int.reduceAdd, Int.reduceMul, Int.reduceSub, Nat.reduceSucc, Nat.reduceGT, Nat.reducePow, Int.reducePow, reduceCtorEq, ↓reduceIte]
    exact ⟨_, _, Weak.refl _ _ _, rfl, rfl⟩
  · refine acond_b (fun h2 => ?_) (fun h2 => ?_) <;> (try simp only [decide_eq_true_eq, decide_eq_false_iff_not] at h2) <;> simp (disch := omega) only [Sh.out h2, go_sem, Nat.reduceAdd, Nat.reduceMul, Nat.reduceSub, Nat.reduceLeDiff, Nat.reduceLT, Nat.reduceEqDiff, Nat.reduceBEq, Nat.reduceBNe, Int.reduceNeg, Int.reduceToNat, Int.reduceLT, Int.reduceLE, Int.reduceEq, Int.reduceAdd, Int.reduceMul, Int.reduceSub, Nat.reduceSucc, Nat.reduceGT, Nat.reducePow, Int.reducePow, reduceCtorEq, ↓reduceIte]
    · subst h2
      refine (openD_c os i hi).useH ?_
      simp (disch := omega) only [go_sem, Nat.reduceAdd, Nat.reduceMul, Nat.reduceSub, Nat.reduceLeDiff, Nat.reduceLT, Nat.reduceEqDiff, Nat.reduceBEq, Nat.reduceBNe, Int.reduceNeg, Int.reduceToNat, Int.reduceLT, Int.reduceLE, Int.reduceEq, Int.reduceAdd, Int.reduceMul, Int.reduceSub, Nat.reduceSucc, Nat.reduceGT, Nat.reducePow, Int.reducePow, reduceCtorEq, ↓reduceIte]
      exact ⟨_, _, Weak.refl _ _ _, rfl, rfl⟩
    · refine acond_b (fun h3 => ?_) (fun h3 => ?_) <;> (try simp only [decide_eq_true_eq, decide_eq_false_iff_not] at h3) <;> simp (disch := omega) only [Sh.out h3, go_sem, Nat.reduceAdd, Nat.reduceMul, Nat.reduceSub, Nat.reduceLeDiff, Nat.reduceLT, Nat.reduceEqDiff, Nat.reduceBEq, Nat.reduceBNe, Int.reduceNeg, Int.reduceToNat, Int.reduceLT, Int.reduceLE, Int.reduceEq, Int.reduceAdd, Int.reduceMul, Int.reduceSub, Nat.reduceSucc, Nat.reduceGT, Nat.reducePow, Int.reducePow, reduceCtorEq, ↓reduceIte]
      · subst h3
        exact ⟨_, _, Weak.refl _ _ _, rfl, by rw [← set_map]; rfl⟩
      · refine acond_b (fun h4 => ?_) (fun h4 => ?_) <;> (try simp only [decide_eq_true_eq, decide_eq_false_iff_not] at h4) <;> simp (disch := omega) only [Sh.out h4, go_sem, Nat.reduceAdd, Nat.reduceMul, Nat.reduceSub, Nat.reduceLeDiff, Nat.reduceLT, Nat.reduceEqDiff, Nat.reduceBEq, Nat.reduceBNe, Int.reduceNeg, Int.reduceToNat, Int.reduceLT, Int.reduceLE, Int.reduceEq, Int.reduceAdd, Int.reduceMul, Int.reduceSub, Nat.reduceSucc, Nat.reduceGT, Nat.reducePow, Int.reducePow, reduceCtorEq, ↓reduceIte]
        · subst h4
          exact ⟨_, _, Weak.refl _ _ _, rfl, by rw [← set_map]; rfl⟩
        · have : ordW (nth os i) k = nth os i := by rw [ordW, if_neg h1, if_neg h2, if_neg h3, if_neg h4]
          rw [this, nth_self hi]
          exact ⟨_, _, Weak.refl _ _ _, rfl, rfl⟩
end Go.Proofs.Ytlbhefiehkmhjaa.K
set_option linter.unusedVariables false
set_option linter.unusedSimpArgs false
namespace Go.Proofs.Ytlbhefiehkmhjaa.K
open Go Go.AM Go.Proofs
set_option maxRecDepth 8000
set_option maxHeartbeats 8000000
theorem take1_set {α : Type} {cs : List α} {j : Nat} {v : α} (h : j < cs.length) : List.take 1 (List.drop j (cs.set j v)) = [v] := by
  rw [List.drop_eq_getElem_cons (by simpa using h)]; simp
theorem take1_at {α : Type} {cs : List α} {j : Nat} {v : α} (h : cs[j]? = some v) : List.take 1 (List.drop j cs) = [v] := by
  obtain ⟨h1, h2⟩ := List.getElem?_eq_some_iff.1 h
  rw [List.drop_eq_getElem_cons h1, h2]; simp
theorem spl_nil {α : Type} : ∀ {cs : List α} {j : Nat}, spl cs j [] = cs
  | [], _ => rfl
  | _ :: _, 0 => rfl
  | _ :: _, _ + 1 => by simp [spl, spl_nil]
theorem spl_set {α : Type} : ∀ {cs : List α} {j : Nat} {v : α}, spl cs j [v] = cs.set j v
  | [], _, _ => rfl
  | x :: l, 0, v => by simp [spl, spl_nil]
  | x :: l, j + 1, v => by simp [spl, spl_set (cs := l)]
theorem wkF_set {H : List AM.Obj} {n : Nat} {x x' : V} (hx : wkV H n x x') : ∀ {cs : List V} {j : Nat}, (∀ v ∈ cs, refB n v = true) → wkF H n (cs.set j x) (cs.set j x')
  | [], _, _ => by simp [wkF]
  | y :: l, 0, h => ⟨hx, wkF_same l fun j c hc => h c (List.mem_cons_of_mem _ (List.mem_of_getElem? hc))⟩
  | y :: l, j + 1, h => ⟨.inr (.inl ⟨rfl, h y (by simp)⟩), wkF_set hx fun v hv => h v (List.mem_cons_of_mem _ hv)⟩
theorem vehLoad_c (cs : List V) (b : Nat) (l : List Int) (c : Bool) (hb : b + 14 ≤ cs.length) (hp : ∀ n, ∀ v ∈ cs, refB n v = true) (h4 : cs[b + 4]? = some (.p (.list c (l.map eI)))) (hl : l.length ≤ 1048576) : ACalls Try.prog 77 [.ptr 0 b, .p (.int .i64 3)] [.cells cs] fun y H' => y = .tup [] ∧ H' = [.cells (cs.set (b + 4) (.p (.list false ((List.replicate l.length (1000 : Int)).map eI))))] := by
  refine acalls_weak [] (fn := Try.f77) Try.func77 rfl isF77 ?_
  have h5 := take1_at h4
  have h6 : b + 4 + 1 ≤ cs.length := by omega
  simp (disch := omega) only [Try.f77, h5, h6, go_sem, Nat.reduceAdd, Nat.reduceMul, Nat.reduceSub, Nat.reduceLeDiff, Nat.reduceLT, Nat.reduceEqDiff, Nat.reduceBEq, Nat.reduceBNe, Int.reduceNeg, Int.reduceToNat, Int.reduceLT, Int.reduceLE, Int.reduceEq, Int.reduceAdd, Int.reduceMul, Int.reduceSub, Nat.reduceSucc, Nat.reduceGT, Nat.reducePow, Int.reducePow, reduceCtorEq, ↓reduceIte]
  refine ACalls.useF (S := 1) (n := l.length) (xs := l.map eI) (cloneInts_own l c hl) ?_
  simp (disch := omega) only [h6, spl_set, take1_set, List.length_set, go_sem, Nat.reduceAdd, Nat.reduceMul, Nat.reduceSub, Nat.reduceLeDiff, Nat.reduceLT, Nat.reduceEqDiff, Nat.reduceBEq, Nat.reduceBNe, Int.reduceNeg, Int.reduceToNat, Int.reduceLT, Int.reduceLE, Int.reduceEq, Int.reduceAdd, Int.reduceMul, Int.reduceSub, Nat.reduceSucc, Nat.reduceGT, Nat.reducePow, Int.reducePow, reduceCtorEq, ↓reduceIte]
  refine awp_for [0, 20] (fun q : Nat × List Int => [(21, .p (.int .i64 q.1))]) (fun q => [.cells (cs.set (b + 4) (.sl 1 0 l.length l.length)), .elems 1 (q.2.map eI)]) (fun q => q.1 ≤ l.length ∧ q.2 = List.replicate q.1 (1000 : Int) ++ l.drop q.1) (fun q => l.length - q.1) (0, l) (by simp) (Weak.mk ?_) ?_
  · simp (disch := omega) only [h6, spl_set, take1_set, List.length_set, go_sem, Nat.reduceAdd, Nat.reduceMul, Nat.reduceSub, Nat.reduceLeDiff, Nat.reduceLT, Nat.reduceEqDiff, Nat.reduceBEq, Nat.reduceBNe, Int.reduceNeg, Int.reduceToNat, Int.reduceLT, Int.reduceLE, Int.reduceEq, Int.reduceAdd, Int.reduceMul, Int.reduceSub, Nat.reduceSucc, Nat.reduceGT, Nat.reducePow, Int.reducePow, reduceCtorEq, ↓reduceIte]
    exact wkF_set (by simp (disch := omega) only [go_sem, Nat.reduceAdd, Nat.reduceMul, Nat.reduceSub, Nat.reduceLeDiff, Nat.reduceLT, Nat.reduceEqDiff, Nat.reduceBEq, Nat.reduceBNe, Int.reduceNeg, Int.reduceToNat, Int.reduceLT, Int.reduceLE, Int.reduceEq, Int.reduceAdd, Int.reduceMul, Int.reduceSub, Nat.reduceSucc, Nat.reduceGT, Nat.reducePow, Int.reducePow, reduceCtorEq, ↓reduceIte]) (hp 2)
  · rintro ⟨k, m⟩ ⟨hk, hm⟩
    simp only at hk hm
    have hml : m.length = l.length := by rw [hm]; simp; omega
    rw [← hml] at hk ⊢
    have hme : (m.map eI).length = m.length := by simp
    simp (disch := omega) only [go_sem, Nat.reduceAdd, Nat.reduceMul, Nat.reduceSub, Nat.reduceLeDiff, Nat.reduceLT, Nat.reduceEqDiff, Nat.reduceBEq, Nat.reduceBNe, Int.reduceNeg, Int.reduceToNat, Int.reduceLT, Int.reduceLE, Int.reduceEq, Int.reduceAdd, Int.reduceMul, Int.reduceSub, Nat.reduceSucc, Nat.reduceGT, Nat.reducePow, Int.reducePow, reduceCtorEq, ↓reduceIte]
    refine acond_b (fun h => ?_) (fun h => ?_) <;> (try simp only [decide_eq_true_eq, decide_eq_false_iff_not] at h) <;> simp (disch := omega) only [Sh.out h, go_sem, Nat.reduceAdd, Nat.reduceMul, Nat.reduceSub, Nat.reduceLeDiff, Nat.reduceLT, Nat.reduceEqDiff, Nat.reduceBEq, Nat.reduceBNe, Int.reduceNeg, Int.reduceToNat, Int.reduceLT, Int.reduceLE, Int.reduceEq, Int.reduceAdd, Int.reduceMul, Int.reduceSub, Nat.reduceSucc, Nat.reduceGT, Nat.reducePow, Int.reducePow, reduceCtorEq, ↓reduceIte]
    · have hk2 : k < m.length := by omega
      simp (disch := omega) only [h6, spl_set, take1_set, List.length_set, go_sem, Nat.reduceAdd, Nat.reduceMul, Nat.reduceSub, Nat.reduceLeDiff, Nat.reduceLT, Nat.reduceEqDiff, Nat.reduceBEq, Nat.reduceBNe, Int.reduceNeg, Int.reduceToNat, Int.reduceLT, Int.reduceLE, Int.reduceEq, Int.reduceAdd, Int.reduceMul, Int.reduceSub, Nat.reduceSucc, Nat.reduceGT, Nat.reducePow, Int.reducePow, reduceCtorEq, ↓reduceIte]
      refine ⟨(k + 1, m.set k 1000), ⟨by simp only; omega, ?_⟩, by simp only; omega, Weak.mk ?_⟩
      · rw [hm]
        have hkl : k < l.length := by omega
        simp only
        rw [List.set_append_right _ _ (by simp), List.drop_eq_getElem_cons hkl, List.replicate_succ', List.append_assoc]
        simp only [List.length_replicate, Nat.sub_self, List.set_cons_zero, List.cons_append, List.nil_append]
      · simp (disch := omega) only [mkE, List.set_cons_zero, List.headD_cons, go_sem, Nat.reduceAdd, Nat.reduceMul, Nat.reduceSub, Nat.reduceLeDiff, Nat.reduceLT, Nat.reduceEqDiff, Nat.reduceBEq, Nat.reduceBNe, Int.reduceNeg, Int.reduceToNat, Int.reduceLT, Int.reduceLE, Int.reduceEq, Int.reduceAdd, Int.reduceMul, Int.reduceSub, Nat.reduceSucc, Nat.reduceGT, Nat.reducePow, Int.reducePow, reduceCtorEq, ↓reduceIte]
        refine ⟨wkF_set ?_ (hp 2), ?_⟩
        · simp (disch := omega) only [go_sem, Nat.reduceAdd, Nat.reduceMul, Nat.reduceSub, Nat.reduceLeDiff, Nat.reduceLT, Nat.reduceEqDiff, Nat.reduceBEq, Nat.reduceBNe, Int.reduceNeg, Int.reduceToNat, Int.reduceLT, Int.reduceLE, Int.reduceEq, Int.reduceAdd, Int.reduceMul, Int.reduceSub, Nat.reduceSucc, Nat.reduceGT, Nat.reducePow, Int.reducePow, reduceCtorEq, ↓reduceIte]
        · exact set_map (f := eI)
    · have hkl : k = m.length := by omega
      subst hkl
      have hm2 : m = List.replicate m.length (1000 : Int) := by rw [hml, List.drop_length, List.append_nil] at hm; rw [hml]; exact hm
      rw [← hm2]
      refine ⟨_, _, ?_, rfl, rfl⟩
      refine Weak.mk ?_
      simp (disch := omega) only [go_sem, Nat.reduceAdd, Nat.reduceMul, Nat.reduceSub, Nat.reduceLeDiff, Nat.reduceLT, Nat.reduceEqDiff, Nat.reduceBEq, Nat.reduceBNe, Int.reduceNeg, Int.reduceToNat, Int.reduceLT, Int.reduceLE, Int.reduceEq, Int.reduceAdd, Int.reduceMul, Int.reduceSub, Nat.reduceSucc, Nat.reduceGT, Nat.reducePow, Int.reducePow, reduceCtorEq, ↓reduceIte]
      refine wkF_set ?_ (hp 1)
      simp (disch := omega) only [go_sem, Nat.reduceAdd, Nat.reduceMul, Nat.reduceSub, Nat.reduceLeDiff, Nat.reduceLT, Nat.reduceEqDiff, Nat.reduceBEq, Nat.reduceBNe, Int.reduceNeg, Int.reduceToNat, Int.reduceLT, Int.reduceLE, Int.reduceEq, Int.reduceAdd, Int.reduceMul, Int.reduceSub, Nat.reduceSucc, Nat.reduceGT, Nat.reducePow, Int.reducePow, reduceCtorEq, ↓reduceIte]
theorem vehInt_c (cs : List V) (b : Nat) (k : Int) (j : Nat) (v : Int) (hk : (k = 7 ∧ j = 8 ∧ v = 4096) ∨ (k = 8 ∧ j = 9 ∧ v = 4096) ∨ (k = 9 ∧ j = 1 ∧ v = 10)) (hb : b + 14 ≤ cs.length) (hp : ∀ n, ∀ v ∈ cs, refB n v = true) : ACalls Try.prog 77 [.ptr 0 b, .p (.int .i64 k)] [.cells cs] fun y H' => y = .tup [] ∧ H' = [.cells (cs.set (b + j) (.p (.int .i64 v)))] := by
  refine acalls_weak [] (fn := Try.f77) Try.func77 rfl isF77 ?_
  have h6 : b + j + 1 ≤ cs.length := by omega
  rcases hk with ⟨rfl, rfl, rfl⟩ | ⟨rfl, rfl, rfl⟩ | ⟨rfl, rfl, rfl⟩ <;>
  · simp (disch := omega) only [Try.f77, h6, spl_set, go_sem, Nat.reduceAdd, Nat.reduceMul, Nat.reduceSub, Nat.reduceLeDiff, Nat.reduceLT, Nat.reduceEqDiff, Nat.reduceBEq, Nat.reduceBNe, Int.reduceNeg, Int.reduceToNat, Int.reduceLT, Int.reduceLE, Int.reduceEq, Int.reduceAdd, Int.reduceMul, Int.reduceSub, Nat.reduceSucc, Nat.reduceGT, Nat.reducePow, Int.reducePow, reduceCtorEq, ↓reduceIte]
    exact ⟨_, _, Weak.refl _ _ _, rfl, rfl⟩
/-- a type without a rule -/
def typW (t : Typ) (kind : Int) : Typ :=
  if kind = 3 then { t with cap_c := false, cap := List.replicate t.cap.length 1000 }
  else if kind = 7 then { t with cls := 4096 }
  else if kind = 8 then { t with drive := 4096 }
  else if kind = 9 then { t with count := 10 }
  else t
theorem flatC_set {S : Nat} {x' v : PV} {j : Nat} : ∀ {xs : List PV} {i : Nat} (h : i < xs.length), (∀ x ∈ xs, x.cells.length = S) → j < S → x'.cells = (xs[i]).cells.set j v → flatC (xs.set i x') = (flatC xs).set (i * S + j) v
  | [], _, h, _, _, _ => absurd h (by simp)
  | x :: xs, 0, _, hS, hj, he => by
    have hx := hS x (by simp)
    simp only [flatC, List.set_cons_zero, List.flatMap_cons, Nat.zero_mul, Nat.zero_add, List.getElem_cons_zero] at *
    rw [he, List.set_append_left _ _ (by omega)]
  | x :: xs, i + 1, h, hS, hj, he => by
    have hx := hS x (by simp)
    have := flatC_set (xs := xs) (i := i) (by simpa using h) (fun y hy => hS y (by simp [hy])) hj (by simpa using he)
    simp only [flatC, List.set_cons_succ, List.flatMap_cons] at *
    rw [this, List.set_append_right _ _ (by rw [hx, Nat.add_mul]; omega), hx]
    congr 2
    rw [Nat.add_mul]; omega
theorem vehicle49_c (ts : List Typ) (i : Nat) (k : Int) (hk : k = 3 ∨ k = 7 ∨ k = 8 ∨ k = 9) (hi : i < ts.length) (hc : (nth ts i).cap.length ≤ 1048576) {H : List AM.Obj} {o : Nat} (hH : H[o]? = some (.elems 14 (ts.map eTyp))) : ACalls Try.prog 77 [.ep o i 0 ts.length, .p (.int .i64 k)] H fun y H' => y = .tup [] ∧ H' = H.set o (.elems 14 ((ts.set i (typW (nth ts i) k)).map eTyp)) := by
  have hS : ∀ (us : List Typ), ∀ x ∈ us.map eTyp, x.cells.length = 14 := fun us x hx => by
    obtain ⟨t, _, rfl⟩ := List.mem_map.1 hx
    rfl
  have hlen : (ts.map eTyp).length = ts.length := by simp
  have hg := nth_get hi
  have main : ∀ (j : Nat) (v : PV), j < 14 → (eTyp (typW (nth ts i) k)).cells = (eTyp (nth ts i)).cells.set j v → (∀ cs : List V, i * 14 + 14 ≤ cs.length → (∀ n, ∀ v ∈ cs, refB n v = true) → cs[i * 14 + 4]? = some (.p (.list (nth ts i).cap_c ((nth ts i).cap.map eI))) → ACalls Try.prog 77 [.ptr 0 (i * 14), .p (.int .i64 k)] [.cells cs] fun y H' => y = .tup [] ∧ H' = [.cells (cs.set (i * 14 + j) (.p v))]) →
      ACalls Try.prog 77 [.ep o i 0 ts.length, .p (.int .i64 k)] H fun y H' => y = .tup [] ∧ H' = H.set o (.elems 14 ((ts.set i (typW (nth ts i) k)).map eTyp)) := fun j v hj he h => by
    rw [← hlen]
    refine ACalls.atF (S := 14) (ps := [.int .i64 k]) hH (hS _) (hS _) (fun sp => ?_) (by simp)
    have hfl := flatC_len (hS ts)
    have h4 : (flatC (ts.map eTyp))[i * 14 + 4]? = some (.list (nth ts i).cap_c ((nth ts i).cap.map eI)) := flatC_get (S := 14) (hS ts) i (eTyp (nth ts i)) 4 _ (by rw [List.getElem?_map, List.getElem?_eq_getElem hi, hg]; rfl) rfl
    have h4l := (List.getElem?_eq_some_iff.1 h4).1
    refine (h _ (by simp [hfl]; omega) (fun n v hv => ?_) ?_).mono ?_
    · rcases List.mem_append.1 hv with hv | hv
      · obtain ⟨y, _, rfl⟩ := List.mem_map.1 hv
        rfl
      · rw [List.eq_of_mem_replicate hv]; rfl
    · rw [List.getElem?_append_left (by simpa using h4l), List.getElem?_map, h4]; rfl
    · rintro y H' ⟨h1, rfl⟩
      refine ⟨h1, List.replicate sp .junk, by simp, ?_⟩
      have hf := flatC_set (S := 14) (x' := eTyp (typW (nth ts i) k)) (v := v) (j := j) (xs := ts.map eTyp) (i := i) (by simpa using hi) (hS ts) hj (by rw [List.getElem_map, ← hg]; exact he)
      rw [set_map] at hf
      rw [hf, List.map_set, List.set_append_left _ _ (by simp [hfl]; omega)]
  rcases hk with rfl | rfl | rfl | rfl
  · exact main 4 _ (by omega) rfl fun cs h1 h2 h3 => vehLoad_c cs _ _ _ h1 h2 h3 hc
  · exact main 8 _ (by omega) rfl fun cs h1 h2 _ => vehInt_c cs _ 7 8 4096 (by simp) h1 h2
  · exact main 9 _ (by omega) rfl fun cs h1 h2 _ => vehInt_c cs _ 8 9 4096 (by simp) h1 h2
  · exact main 1 _ (by omega) rfl fun cs h1 h2 _ => vehInt_c cs _ 9 1 10 (by simp) h1 h2
end Go.Proofs.Ytlbhefiehkmhjaa.K
set_option linter.unusedVariables false
set_option linter.unusedSimpArgs false
namespace Go.Proofs.Ytlbhefiehkmhjaa.K
open Go Go.AM Go.Proofs
set_option maxRecDepth 8000
set_option maxHeartbeats 8000000
/-- what of an instance its rules need -/
structure ISz (x : Inst) : Prop where
  plc : Plc x
  ord : x.orders.length ≤ 1000
  typ0 : 0 < x.types.length
  typ : x.types.length ≤ 1000
  ap : x.apart.length ≤ 1000
  be : x.before.length ≤ 1000
theorem refI_len {x : Inst} (h : ISz x) : (refI x 10).length ≤ 1048576 := by
  have e : (refI x 10).Perm (preI x) := by
    refine (List.perm_ext_iff_of_nodup ?_ (preI_nodup h.plc)).2 fun v => by rw [mem_refI, mem_preI h.plc]
    exact (refI_sorted x 10).imp fun {a b} hh e => by subst e; rw [cmpT_lt] at hh; omega
  rw [e.length_eq]
  have h1 := itOs_len x x.orders.length
  have h2 := itT_len (k := x.types.length)
  have h3 := itA_len x x.apart.length
  have h4 := itB_len x x.before.length
  have := h.ord
  have := h.typ
  have := h.ap
  have := h.be
  simp only [preI, List.length_append]; omega
theorem itemsC (x : Inst) (h : ISz x) : ACalls Try.prog 32 [.p (eInst x)] [] fun y H' => y = .p (.list false ((refI x 10).map eItm)) ∧ H' = [] := items_c x h.plc h.ord ⟨h.typ0, h.typ⟩ h.ap h.be
theorem has49_c (x : Inst) (h : ISz x) (v : Itm) : ACalls Try.prog 34 [.p (eInst x), .p (eItm v)] [] fun y H' => y = .p (.bool (hasI x v)) ∧ H' = [] := by
  refine acalls_pure (fn := Try.f34) Try.func34 rfl isF34 ?_
  simp (disch := omega) only [Try.f34, go_sem, Nat.reduceAdd, Nat.reduceMul, Nat.reduceSub, Nat.reduceLeDiff, Nat.reduceLT, Nat.reduceEqDiff, Nat.reduceBEq, Nat.reduceBNe, Int.reduceNeg, Int.reduceToNat, Int.reduceLT, Int.reduceLE, Int.reduceEq, Int.reduceAdd, Int.reduceMul, Int.reduceSub, Nat.reduceSucc, Nat.reduceGT, Nat.reducePow, Int.reducePow, reduceCtorEq, ↓reduceIte]
  refine awp_drawnA mixed (by kernel_rfl) (by kernel_rfl) ?_
  simp (disch := omega) only [go_sem, Nat.reduceAdd, Nat.reduceMul, Nat.reduceSub, Nat.reduceLeDiff, Nat.reduceLT, Nat.reduceEqDiff, Nat.reduceBEq, Nat.reduceBNe, Int.reduceNeg, Int.reduceToNat, Int.reduceLT, Int.reduceLE, Int.reduceEq, Int.reduceAdd, Int.reduceMul, Int.reduceSub, Nat.reduceSucc, Nat.reduceGT, Nat.reducePow, Int.reducePow, reduceCtorEq, ↓reduceIte]
  refine exq_call (itemsC x h) ?_
  simp (disch := omega) only [go_sem, Nat.reduceAdd, Nat.reduceMul, Nat.reduceSub, Nat.reduceLeDiff, Nat.reduceLT, Nat.reduceEqDiff, Nat.reduceBEq, Nat.reduceBNe, Int.reduceNeg, Int.reduceToNat, Int.reduceLT, Int.reduceLE, Int.reduceEq, Int.reduceAdd, Int.reduceMul, Int.reduceSub, Nat.reduceSucc, Nat.reduceGT, Nat.reducePow, Int.reducePow, reduceCtorEq, ↓reduceIte]
  refine exq_call (contains49_c (refI x 10) false v (refI_len h)) ?_
  simp (disch := omega) only [go_sem, Nat.reduceAdd, Nat.reduceMul, Nat.reduceSub, Nat.reduceLeDiff, Nat.reduceLT, Nat.reduceEqDiff, Nat.reduceBEq, Nat.reduceBNe, Int.reduceNeg, Int.reduceToNat, Int.reduceLT, Int.reduceLE, Int.reduceEq, Int.reduceAdd, Int.reduceMul, Int.reduceSub, Nat.reduceSucc, Nat.reduceGT, Nat.reducePow, Int.reducePow, reduceCtorEq, ↓reduceIte]
  simp [mem_refI]
theorem rorder49_c (o : Ord) (k : Int) (hk : k = 1 ∨ k = 2 ∨ k = 4 ∨ k = 10) : ACalls Try.prog 109 [.p (eOrd o), .p (.int .i64 k)] [] fun y H' => y = .p (.bool (ordB o k)) ∧ H' = [] := by
  refine acalls_pure (fn := Try.f109) Try.func109 rfl isF109 ?_
  rcases hk with rfl | rfl | rfl | rfl
  · simp (disch := omega) only [Try.f109, ordB, go_sem, Nat.reduceAdd, Nat.reduceMul, Nat.reduceSub, Nat.reduceLeDiff, Nat.reduceLT, Nat.reduceEqDiff, Nat.reduceBEq, Nat.reduceBNe, Int.reduceNeg, Int.reduceToNat, Int.reduceLT, Int.reduceLE, Int.reduceEq, Int.reduceAdd, Int.reduceMul, Int.reduceSub, Nat.reduceSucc, Nat.reduceGT, Nat.reducePow, Int.reducePow, reduceCtorEq, ↓reduceIte]
  · simp (disch := omega) only [Try.f109, ordB, go_sem, Nat.reduceAdd, Nat.reduceMul, Nat.reduceSub, Nat.reduceLeDiff, Nat.reduceLT, Nat.reduceEqDiff, Nat.reduceBEq, Nat.reduceBNe, Int.reduceNeg, Int.reduceToNat, Int.reduceLT, Int.reduceLE, Int.reduceEq, Int.reduceAdd, Int.reduceMul, Int.reduceSub, Nat.reduceSucc, Nat.reduceGT, Nat.reducePow, Int.reducePow, reduceCtorEq, ↓reduceIte]
  · simp (disch := omega) only [Try.f109, ordB, go_sem, Nat.reduceAdd, Nat.reduceMul, Nat.reduceSub, Nat.reduceLeDiff, Nat.reduceLT, Nat.reduceEqDiff, Nat.reduceBEq, Nat.reduceBNe, Int.reduceNeg, Int.reduceToNat, Int.reduceLT, Int.reduceLE, Int.reduceEq, Int.reduceAdd, Int.reduceMul, Int.reduceSub, Nat.reduceSucc, Nat.reduceGT, Nat.reducePow, Int.reducePow, reduceCtorEq, ↓reduceIte]
  · simp (disch := omega) only [Try.f109, ordB, go_sem, Nat.reduceAdd, Nat.reduceMul, Nat.reduceSub, Nat.reduceLeDiff, Nat.reduceLT, Nat.reduceEqDiff, Nat.reduceBEq, Nat.reduceBNe, Int.reduceNeg, Int.reduceToNat, Int.reduceLT, Int.reduceLE, Int.reduceEq, Int.reduceAdd, Int.reduceMul, Int.reduceSub, Nat.reduceSucc, Nat.reduceGT, Nat.reducePow, Int.reducePow, reduceCtorEq, ↓reduceIte]
theorem ract49_c (x : Inst) (i : Int) (hl : x.orders.length ≤ 1048576) : ACalls Try.prog 108 [.p (eInst x), .p (.int .i64 i)] [] fun y H' => y = .p (.bool (actB x i)) ∧ H' = [] := by
  refine acalls_pure (fn := Try.f108) Try.func108 rfl isF108 ?_
  simp (disch := omega) only [Try.f108, go_sem, Nat.reduceAdd, Nat.reduceMul, Nat.reduceSub, Nat.reduceLeDiff, Nat.reduceLT, Nat.reduceEqDiff, Nat.reduceBEq, Nat.reduceBNe, Int.reduceNeg, Int.reduceToNat, Int.reduceLT, Int.reduceLE, Int.reduceEq, Int.reduceAdd, Int.reduceMul, Int.reduceSub, Nat.reduceSucc, Nat.reduceGT, Nat.reducePow, Int.reducePow, reduceCtorEq, ↓reduceIte]
  refine aguard_t (fun h => ?_) (fun h => ?_) <;> (try simp only [decide_eq_true_eq, decide_eq_false_iff_not] at h) <;> simp (disch := omega) only [Sh.out h, go_sem, Nat.reduceAdd, Nat.reduceMul, Nat.reduceSub, Nat.reduceLeDiff, Nat.reduceLT, Nat.reduceEqDiff, Nat.reduceBEq, Nat.reduceBNe, Int.reduceNeg, Int.reduceToNat, Int.reduceLT, Int.reduceLE, Int.reduceEq, Int.reduceAdd, Int.reduceMul, Int.reduceSub, Nat.reduceSucc, Nat.reduceGT, Nat.reducePow, Int.reducePow, reduceCtorEq, ↓reduceIte]
  · refine aguard_t (fun h2 => ?_) (fun h2 => ?_) <;> (try simp only [decide_eq_true_eq, decide_eq_false_iff_not] at h2) <;> simp (disch := omega) only [Sh.out h2, go_sem, Nat.reduceAdd, Nat.reduceMul, Nat.reduceSub, Nat.reduceLeDiff, Nat.reduceLT, Nat.reduceEqDiff, Nat.reduceBEq, Nat.reduceBNe, Int.reduceNeg, Int.reduceToNat, Int.reduceLT, Int.reduceLE, Int.reduceEq, Int.reduceAdd, Int.reduceMul, Int.reduceSub, Nat.reduceSucc, Nat.reduceGT, Nat.reducePow, Int.reducePow, reduceCtorEq, ↓reduceIte]
    · simp [actB, h, h2]
    · simp [actB, h2]
  · simp [actB, h]
theorem rhas49_c (x : Inst) (h : ISz x) (v : Itm) : ACalls Try.prog 73 [.p (eInst x), .p (eItm v)] [] fun y H' => y = .p (.bool (hasI x v)) ∧ H' = [] := by
  have s1 := h.ord
  have s2 := h.typ
  have s3 := h.ap
  have s4 := h.be
  refine acalls_pure (fn := Try.f73) Try.func73 rfl isF73 ?_
  obtain ⟨k, a⟩ := v
  have gO : ∀ k : Int, (k = 1 ∨ k = 2 ∨ k = 4 ∨ k = 10) → hasI x ⟨k, a⟩ = (actB x a && ordB (nth x.orders a.toNat) k) := fun k h => by simp only [hasI]; rw [if_pos h]
  by_cases h1 : k = 1 ∨ k = 2 ∨ k = 4 ∨ k = 10
  · rw [gO k h1]
    rcases h1 with rfl | rfl | rfl | rfl
    · simp (disch := omega) only [Try.f73, go_sem, Nat.reduceAdd, Nat.reduceMul, Nat.reduceSub, Nat.reduceLeDiff, Nat.reduceLT, Nat.reduceEqDiff, Nat.reduceBEq, Nat.reduceBNe, Int.reduceNeg, Int.reduceToNat, Int.reduceLT, Int.reduceLE, Int.reduceEq, Int.reduceAdd, Int.reduceMul, Int.reduceSub, Nat.reduceSucc, Nat.reduceGT, Nat.reducePow, Int.reducePow, reduceCtorEq, ↓reduceIte]
      refine awp_drawnA mixed (by kernel_rfl) (by kernel_rfl) ?_
      simp (disch := omega) only [go_sem, Nat.reduceAdd, Nat.reduceMul, Nat.reduceSub, Nat.reduceLeDiff, Nat.reduceLT, Nat.reduceEqDiff, Nat.reduceBEq, Nat.reduceBNe, Int.reduceNeg, Int.reduceToNat, Int.reduceLT, Int.reduceLE, Int.reduceEq, Int.reduceAdd, Int.reduceMul, Int.reduceSub, Nat.reduceSucc, Nat.reduceGT, Nat.reducePow, Int.reducePow, reduceCtorEq, ↓reduceIte]
      refine exq_call (ract49_c x a (by omega)) ?_
      simp (disch := omega) only [go_sem, Nat.reduceAdd, Nat.reduceMul, Nat.reduceSub, Nat.reduceLeDiff, Nat.reduceLT, Nat.reduceEqDiff, Nat.reduceBEq, Nat.reduceBNe, Int.reduceNeg, Int.reduceToNat, Int.reduceLT, Int.reduceLE, Int.reduceEq, Int.reduceAdd, Int.reduceMul, Int.reduceSub, Nat.reduceSucc, Nat.reduceGT, Nat.reducePow, Int.reducePow, reduceCtorEq, ↓reduceIte]
      refine aguard_t (fun h => ?_) (fun h => ?_) <;> (try simp only [decide_eq_true_eq, decide_eq_false_iff_not] at h) <;> simp (disch := omega) only [Sh.out h, go_sem, Nat.reduceAdd, Nat.reduceMul, Nat.reduceSub, Nat.reduceLeDiff, Nat.reduceLT, Nat.reduceEqDiff, Nat.reduceBEq, Nat.reduceBNe, Int.reduceNeg, Int.reduceToNat, Int.reduceLT, Int.reduceLE, Int.reduceEq, Int.reduceAdd, Int.reduceMul, Int.reduceSub, Nat.reduceSucc, Nat.reduceGT, Nat.reducePow, Int.reducePow, reduceCtorEq, ↓reduceIte]
      · have h2 : 0 ≤ a ∧ a < (x.orders.length : Int) := by simp only [actB, Bool.and_eq_true, decide_eq_true_eq] at h; omega
        simp (disch := omega) only [go_sem, Nat.reduceAdd, Nat.reduceMul, Nat.reduceSub, Nat.reduceLeDiff, Nat.reduceLT, Nat.reduceEqDiff, Nat.reduceBEq, Nat.reduceBNe, Int.reduceNeg, Int.reduceToNat, Int.reduceLT, Int.reduceLE, Int.reduceEq, Int.reduceAdd, Int.reduceMul, Int.reduceSub, Nat.reduceSucc, Nat.reduceGT, Nat.reducePow, Int.reducePow, reduceCtorEq, ↓reduceIte]
        refine exq_call (rorder49_c (nth x.orders a.toNat) 1 (by omega)) ?_
        simp (disch := omega) only [go_sem, Nat.reduceAdd, Nat.reduceMul, Nat.reduceSub, Nat.reduceLeDiff, Nat.reduceLT, Nat.reduceEqDiff, Nat.reduceBEq, Nat.reduceBNe, Int.reduceNeg, Int.reduceToNat, Int.reduceLT, Int.reduceLE, Int.reduceEq, Int.reduceAdd, Int.reduceMul, Int.reduceSub, Nat.reduceSucc, Nat.reduceGT, Nat.reducePow, Int.reducePow, reduceCtorEq, ↓reduceIte]
        simp [h]
    · simp (disch := omega) only [Try.f73, go_sem, Nat.reduceAdd, Nat.reduceMul, Nat.reduceSub, Nat.reduceLeDiff, Nat.reduceLT, Nat.reduceEqDiff, Nat.reduceBEq, Nat.reduceBNe, Int.reduceNeg, Int.reduceToNat, Int.reduceLT, Int.reduceLE, Int.reduceEq, Int.reduceAdd, Int.reduceMul, Int.reduceSub, Nat.reduceSucc, Nat.reduceGT, Nat.reducePow, Int.reducePow, reduceCtorEq, ↓reduceIte]
      refine awp_drawnA mixed (by kernel_rfl) (by kernel_rfl) ?_
      simp (disch := omega) only [go_sem, Nat.reduceAdd, Nat.reduceMul, Nat.reduceSub, Nat.reduceLeDiff, Nat.reduceLT, Nat.reduceEqDiff, Nat.reduceBEq, Nat.reduceBNe, Int.reduceNeg, Int.reduceToNat, Int.reduceLT, Int.reduceLE, Int.reduceEq, Int.reduceAdd, Int.reduceMul, Int.reduceSub, Nat.reduceSucc, Nat.reduceGT, Nat.reducePow, Int.reducePow, reduceCtorEq, ↓reduceIte]
      refine exq_call (ract49_c x a (by omega)) ?_
      simp (disch := omega) only [go_sem, Nat.reduceAdd, Nat.reduceMul, Nat.reduceSub, Nat.reduceLeDiff, Nat.reduceLT, Nat.reduceEqDiff, Nat.reduceBEq, Nat.reduceBNe, Int.reduceNeg, Int.reduceToNat, Int.reduceLT, Int.reduceLE, Int.reduceEq, Int.reduceAdd, Int.reduceMul, Int.reduceSub, Nat.reduceSucc, Nat.reduceGT, Nat.reducePow, Int.reducePow, reduceCtorEq, ↓reduceIte]
      refine aguard_t (fun h => ?_) (fun h => ?_) <;> (try simp only [decide_eq_true_eq, decide_eq_false_iff_not] at h) <;> simp (disch := omega) only [Sh.out h, go_sem, Nat.reduceAdd, Nat.reduceMul, Nat.reduceSub, Nat.reduceLeDiff, Nat.reduceLT, Nat.reduceEqDiff, Nat.reduceBEq, Nat.reduceBNe, Int.reduceNeg, Int.reduceToNat, Int.reduceLT, Int.reduceLE, Int.reduceEq, Int.reduceAdd, Int.reduceMul, Int.reduceSub, Nat.reduceSucc, Nat.reduceGT, Nat.reducePow, Int.reducePow, reduceCtorEq, ↓reduceIte]
      · have h2 : 0 ≤ a ∧ a < (x.orders.length : Int) := by simp only [actB, Bool.and_eq_true, decide_eq_true_eq] at h; omega
        simp (disch := omega) only [go_sem, Nat.reduceAdd, Nat.reduceMul, Nat.reduceSub, Nat.reduceLeDiff, Nat.reduceLT, Nat.reduceEqDiff, Nat.reduceBEq, Nat.reduceBNe, Int.reduceNeg, Int.reduceToNat, Int.reduceLT, Int.reduceLE, Int.reduceEq, Int.reduceAdd, Int.reduceMul, Int.reduceSub, Nat.reduceSucc, Nat.reduceGT, Nat.reducePow, Int.reducePow, reduceCtorEq, ↓reduceIte]
        refine exq_call (rorder49_c (nth x.orders a.toNat) 2 (by omega)) ?_
        simp (disch := omega) only [go_sem, Nat.reduceAdd, Nat.reduceMul, Nat.reduceSub, Nat.reduceLeDiff, Nat.reduceLT, Nat.reduceEqDiff, Nat.reduceBEq, Nat.reduceBNe, Int.reduceNeg, Int.reduceToNat, Int.reduceLT, Int.reduceLE, Int.reduceEq, Int.reduceAdd, Int.reduceMul, Int.reduceSub, Nat.reduceSucc, Nat.reduceGT, Nat.reducePow, Int.reducePow, reduceCtorEq, ↓reduceIte]
        simp [h]
    · simp (disch := omega) only [Try.f73, go_sem, Nat.reduceAdd, Nat.reduceMul, Nat.reduceSub, Nat.reduceLeDiff, Nat.reduceLT, Nat.reduceEqDiff, Nat.reduceBEq, Nat.reduceBNe, Int.reduceNeg, Int.reduceToNat, Int.reduceLT, Int.reduceLE, Int.reduceEq, Int.reduceAdd, Int.reduceMul, Int.reduceSub, Nat.reduceSucc, Nat.reduceGT, Nat.reducePow, Int.reducePow, reduceCtorEq, ↓reduceIte]
      refine awp_drawnA mixed (by kernel_rfl) (by kernel_rfl) ?_
      simp (disch := omega) only [go_sem, Nat.reduceAdd, Nat.reduceMul, Nat.reduceSub, Nat.reduceLeDiff, Nat.reduceLT, Nat.reduceEqDiff, Nat.reduceBEq, Nat.reduceBNe, Int.reduceNeg, Int.reduceToNat, Int.reduceLT, Int.reduceLE, Int.reduceEq, Int.reduceAdd, Int.reduceMul, Int.reduceSub, Nat.reduceSucc, Nat.reduceGT, Nat.reducePow, Int.reducePow, reduceCtorEq, ↓reduceIte]
      refine exq_call (ract49_c x a (by omega)) ?_
      simp (disch := omega) only [go_sem, Nat.reduceAdd, Nat.reduceMul, Nat.reduceSub, Nat.reduceLeDiff, Nat.reduceLT, Nat.reduceEqDiff, Nat.reduceBEq, Nat.reduceBNe, Int.reduceNeg, Int.reduceToNat, Int.reduceLT, Int.reduceLE, Int.reduceEq, Int.reduceAdd, Int.reduceMul, Int.reduceSub, Nat.reduceSucc, Nat.reduceGT, Nat.reducePow, Int.reducePow, reduceCtorEq, ↓reduceIte]
      refine aguard_t (fun h => ?_) (fun h => ?_) <;> (try simp only [decide_eq_true_eq, decide_eq_false_iff_not] at h) <;> simp (disch := omega) only [Sh.out h, go_sem, Nat.reduceAdd, Nat.reduceMul, Nat.reduceSub, Nat.reduceLeDiff, Nat.reduceLT, Nat.reduceEqDiff, Nat.reduceBEq, Nat.reduceBNe, Int.reduceNeg, Int.reduceToNat, Int.reduceLT, Int.reduceLE, Int.reduceEq, Int.reduceAdd, Int.reduceMul, Int.reduceSub, Nat.reduceSucc, Nat.reduceGT, Nat.reducePow, Int.reducePow, reduceCtorEq, ↓reduceIte]
      · have h2 : 0 ≤ a ∧ a < (x.orders.length : Int) := by simp only [actB, Bool.and_eq_true, decide_eq_true_eq] at h; omega
        simp (disch := omega) only [go_sem, Nat.reduceAdd, Nat.reduceMul, Nat.reduceSub, Nat.reduceLeDiff, Nat.reduceLT, Nat.reduceEqDiff, Nat.reduceBEq, Nat.reduceBNe, Int.reduceNeg, Int.reduceToNat, Int.reduceLT, Int.reduceLE, Int.reduceEq, Int.reduceAdd, Int.reduceMul, Int.reduceSub, Nat.reduceSucc, Nat.reduceGT, Nat.reducePow, Int.reducePow, reduceCtorEq, ↓reduceIte]
        refine exq_call (rorder49_c (nth x.orders a.toNat) 4 (by omega)) ?_
        simp (disch := omega) only [go_sem, Nat.reduceAdd, Nat.reduceMul, Nat.reduceSub, Nat.reduceLeDiff, Nat.reduceLT, Nat.reduceEqDiff, Nat.reduceBEq, Nat.reduceBNe, Int.reduceNeg, Int.reduceToNat, Int.reduceLT, Int.reduceLE, Int.reduceEq, Int.reduceAdd, Int.reduceMul, Int.reduceSub, Nat.reduceSucc, Nat.reduceGT, Nat.reducePow, Int.reducePow, reduceCtorEq, ↓reduceIte]
        simp [h]
    · simp (disch := omega) only [Try.f73, go_sem, Nat.reduceAdd, Nat.reduceMul, Nat.reduceSub, Nat.reduceLeDiff, Nat.reduceLT, Nat.reduceEqDiff, Nat.reduceBEq, Nat.reduceBNe, Int.reduceNeg, Int.reduceToNat, Int.reduceLT, Int.reduceLE, Int.reduceEq, Int.reduceAdd, Int.reduceMul, Int.reduceSub, Nat.reduceSucc, Nat.reduceGT, Nat.reducePow, Int.reducePow, reduceCtorEq, ↓reduceIte]
      refine awp_drawnA mixed (by kernel_rfl) (by kernel_rfl) ?_
      simp (disch := omega) only [go_sem, Nat.reduceAdd, Nat.reduceMul, Nat.reduceSub, Nat.reduceLeDiff, Nat.reduceLT, Nat.reduceEqDiff, Nat.reduceBEq, Nat.reduceBNe, Int.reduceNeg, Int.reduceToNat, Int.reduceLT, Int.reduceLE, Int.reduceEq, Int.reduceAdd, Int.reduceMul, Int.reduceSub, Nat.reduceSucc, Nat.reduceGT, Nat.reducePow, Int.reducePow, reduceCtorEq, ↓reduceIte]
      refine exq_call (ract49_c x a (by omega)) ?_
      simp (disch := omega) only [go_sem, Nat.reduceAdd, Nat.reduceMul, Nat.reduceSub, Nat.reduceLeDiff, Nat.reduceLT, Nat.reduceEqDiff, Nat.reduceBEq, Nat.reduceBNe, Int.reduceNeg, Int.reduceToNat, Int.reduceLT, Int.reduceLE, Int.reduceEq, Int.reduceAdd, Int.reduceMul, Int.reduceSub, Nat.reduceSucc, Nat.reduceGT, Nat.reducePow, Int.reducePow, reduceCtorEq, ↓reduceIte]
      refine aguard_t (fun h => ?_) (fun h => ?_) <;> (try simp only [decide_eq_true_eq, decide_eq_false_iff_not] at h) <;> simp (disch := omega) only [Sh.out h, go_sem, Nat.reduceAdd, Nat.reduceMul, Nat.reduceSub, Nat.reduceLeDiff, Nat.reduceLT, Nat.reduceEqDiff, Nat.reduceBEq, Nat.reduceBNe, Int.reduceNeg, Int.reduceToNat, Int.reduceLT, Int.reduceLE, Int.reduceEq, Int.reduceAdd, Int.reduceMul, Int.reduceSub, Nat.reduceSucc, Nat.reduceGT, Nat.reducePow, Int.reducePow, reduceCtorEq, ↓reduceIte]
      · have h2 : 0 ≤ a ∧ a < (x.orders.length : Int) := by simp only [actB, Bool.and_eq_true, decide_eq_true_eq] at h; omega
        simp (disch := omega) only [go_sem, Nat.reduceAdd, Nat.reduceMul, Nat.reduceSub, Nat.reduceLeDiff, Nat.reduceLT, Nat.reduceEqDiff, Nat.reduceBEq, Nat.reduceBNe, Int.reduceNeg, Int.reduceToNat, Int.reduceLT, Int.reduceLE, Int.reduceEq, Int.reduceAdd, Int.reduceMul, Int.reduceSub, Nat.reduceSucc, Nat.reduceGT, Nat.reducePow, Int.reducePow, reduceCtorEq, ↓reduceIte]
        refine exq_call (rorder49_c (nth x.orders a.toNat) 10 (by omega)) ?_
        simp (disch := omega) only [go_sem, Nat.reduceAdd, Nat.reduceMul, Nat.reduceSub, Nat.reduceLeDiff, Nat.reduceLT, Nat.reduceEqDiff, Nat.reduceBEq, Nat.reduceBNe, Int.reduceNeg, Int.reduceToNat, Int.reduceLT, Int.reduceLE, Int.reduceEq, Int.reduceAdd, Int.reduceMul, Int.reduceSub, Nat.reduceSucc, Nat.reduceGT, Nat.reducePow, Int.reducePow, reduceCtorEq, ↓reduceIte]
        simp [h]
  · by_cases h2 : k = 3 ∨ k = 7 ∨ k = 8 ∨ k = 9
    · rcases h2 with rfl | rfl | rfl | rfl
      · simp (disch := omega) only [Try.f73, go_sem, Nat.reduceAdd, Nat.reduceMul, Nat.reduceSub, Nat.reduceLeDiff, Nat.reduceLT, Nat.reduceEqDiff, Nat.reduceBEq, Nat.reduceBNe, Int.reduceNeg, Int.reduceToNat, Int.reduceLT, Int.reduceLE, Int.reduceEq, Int.reduceAdd, Int.reduceMul, Int.reduceSub, Nat.reduceSucc, Nat.reduceGT, Nat.reducePow, Int.reducePow, reduceCtorEq, ↓reduceIte]
        refine aguard_t (fun hq => ?_) (fun hq => ?_) <;> (try simp only [decide_eq_true_eq, decide_eq_false_iff_not] at hq) <;> simp (disch := omega) only [Sh.out hq, go_sem, Nat.reduceAdd, Nat.reduceMul, Nat.reduceSub, Nat.reduceLeDiff, Nat.reduceLT, Nat.reduceEqDiff, Nat.reduceBEq, Nat.reduceBNe, Int.reduceNeg, Int.reduceToNat, Int.reduceLT, Int.reduceLE, Int.reduceEq, Int.reduceAdd, Int.reduceMul, Int.reduceSub, Nat.reduceSucc, Nat.reduceGT, Nat.reducePow, Int.reducePow, reduceCtorEq, ↓reduceIte]
        · simp [hasI, hq]
        · simp [hasI, hq]
      · simp (disch := omega) only [Try.f73, go_sem, Nat.reduceAdd, Nat.reduceMul, Nat.reduceSub, Nat.reduceLeDiff, Nat.reduceLT, Nat.reduceEqDiff, Nat.reduceBEq, Nat.reduceBNe, Int.reduceNeg, Int.reduceToNat, Int.reduceLT, Int.reduceLE, Int.reduceEq, Int.reduceAdd, Int.reduceMul, Int.reduceSub, Nat.reduceSucc, Nat.reduceGT, Nat.reducePow, Int.reducePow, reduceCtorEq, ↓reduceIte]
        refine aguard_t (fun hq => ?_) (fun hq => ?_) <;> (try simp only [decide_eq_true_eq, decide_eq_false_iff_not] at hq) <;> simp (disch := omega) only [Sh.out hq, go_sem, Nat.reduceAdd, Nat.reduceMul, Nat.reduceSub, Nat.reduceLeDiff, Nat.reduceLT, Nat.reduceEqDiff, Nat.reduceBEq, Nat.reduceBNe, Int.reduceNeg, Int.reduceToNat, Int.reduceLT, Int.reduceLE, Int.reduceEq, Int.reduceAdd, Int.reduceMul, Int.reduceSub, Nat.reduceSucc, Nat.reduceGT, Nat.reducePow, Int.reducePow, reduceCtorEq, ↓reduceIte]
        · simp [hasI, hq]
        · simp [hasI, hq]
      · simp (disch := omega) only [Try.f73, go_sem, Nat.reduceAdd, Nat.reduceMul, Nat.reduceSub, Nat.reduceLeDiff, Nat.reduceLT, Nat.reduceEqDiff, Nat.reduceBEq, Nat.reduceBNe, Int.reduceNeg, Int.reduceToNat, Int.reduceLT, Int.reduceLE, Int.reduceEq, Int.reduceAdd, Int.reduceMul, Int.reduceSub, Nat.reduceSucc, Nat.reduceGT, Nat.reducePow, Int.reducePow, reduceCtorEq, ↓reduceIte]
        refine aguard_t (fun hq => ?_) (fun hq => ?_) <;> (try simp only [decide_eq_true_eq, decide_eq_false_iff_not] at hq) <;> simp (disch := omega) only [Sh.out hq, go_sem, Nat.reduceAdd, Nat.reduceMul, Nat.reduceSub, Nat.reduceLeDiff, Nat.reduceLT, Nat.reduceEqDiff, Nat.reduceBEq, Nat.reduceBNe, Int.reduceNeg, Int.reduceToNat, Int.reduceLT, Int.reduceLE, Int.reduceEq, Int.reduceAdd, Int.reduceMul, Int.reduceSub, Nat.reduceSucc, Nat.reduceGT, Nat.reducePow, Int.reducePow, reduceCtorEq, ↓reduceIte]
        · simp [hasI, hq]
        · simp [hasI, hq]
      · simp (disch := omega) only [Try.f73, go_sem, Nat.reduceAdd, Nat.reduceMul, Nat.reduceSub, Nat.reduceLeDiff, Nat.reduceLT, Nat.reduceEqDiff, Nat.reduceBEq, Nat.reduceBNe, Int.reduceNeg, Int.reduceToNat, Int.reduceLT, Int.reduceLE, Int.reduceEq, Int.reduceAdd, Int.reduceMul, Int.reduceSub, Nat.reduceSucc, Nat.reduceGT, Nat.reducePow, Int.reducePow, reduceCtorEq, ↓reduceIte]
        refine aguard_t (fun hq => ?_) (fun hq => ?_) <;> (try simp only [decide_eq_true_eq, decide_eq_false_iff_not] at hq) <;> simp (disch := omega) only [Sh.out hq, go_sem, Nat.reduceAdd, Nat.reduceMul, Nat.reduceSub, Nat.reduceLeDiff, Nat.reduceLT, Nat.reduceEqDiff, Nat.reduceBEq, Nat.reduceBNe, Int.reduceNeg, Int.reduceToNat, Int.reduceLT, Int.reduceLE, Int.reduceEq, Int.reduceAdd, Int.reduceMul, Int.reduceSub, Nat.reduceSucc, Nat.reduceGT, Nat.reducePow, Int.reducePow, reduceCtorEq, ↓reduceIte]
        · simp [hasI, hq]
        · simp [hasI, hq]
    · by_cases h3 : k = 5
      · subst h3
        simp (disch := omega) only [Try.f73, go_sem, Nat.reduceAdd, Nat.reduceMul, Nat.reduceSub, Nat.reduceLeDiff, Nat.reduceLT, Nat.reduceEqDiff, Nat.reduceBEq, Nat.reduceBNe, Int.reduceNeg, Int.reduceToNat, Int.reduceLT, Int.reduceLE, Int.reduceEq, Int.reduceAdd, Int.reduceMul, Int.reduceSub, Nat.reduceSucc, Nat.reduceGT, Nat.reducePow, Int.reducePow, reduceCtorEq, ↓reduceIte]
        refine awp_drawnA mixed (by kernel_rfl) (by kernel_rfl) ?_
        simp (disch := omega) only [go_sem, Nat.reduceAdd, Nat.reduceMul, Nat.reduceSub, Nat.reduceLeDiff, Nat.reduceLT, Nat.reduceEqDiff, Nat.reduceBEq, Nat.reduceBNe, Int.reduceNeg, Int.reduceToNat, Int.reduceLT, Int.reduceLE, Int.reduceEq, Int.reduceAdd, Int.reduceMul, Int.reduceSub, Nat.reduceSucc, Nat.reduceGT, Nat.reducePow, Int.reducePow, reduceCtorEq, ↓reduceIte]
        refine aguard_t (fun hq => ?_) (fun hq => ?_) <;> (try simp only [decide_eq_true_eq, decide_eq_false_iff_not] at hq) <;> simp (disch := omega) only [Sh.out hq, go_sem, Nat.reduceAdd, Nat.reduceMul, Nat.reduceSub, Nat.reduceLeDiff, Nat.reduceLT, Nat.reduceEqDiff, Nat.reduceBEq, Nat.reduceBNe, Int.reduceNeg, Int.reduceToNat, Int.reduceLT, Int.reduceLE, Int.reduceEq, Int.reduceAdd, Int.reduceMul, Int.reduceSub, Nat.reduceSucc, Nat.reduceGT, Nat.reducePow, Int.reducePow, reduceCtorEq, ↓reduceIte]
        · refine aguard_t (fun hq2 => ?_) (fun hq2 => ?_) <;> (try simp only [decide_eq_true_eq, decide_eq_false_iff_not] at hq2) <;> simp (disch := omega) only [Sh.out hq2, go_sem, Nat.reduceAdd, Nat.reduceMul, Nat.reduceSub, Nat.reduceLeDiff, Nat.reduceLT, Nat.reduceEqDiff, Nat.reduceBEq, Nat.reduceBNe, Int.reduceNeg, Int.reduceToNat, Int.reduceLT, Int.reduceLE, Int.reduceEq, Int.reduceAdd, Int.reduceMul, Int.reduceSub, Nat.reduceSucc, Nat.reduceGT, Nat.reducePow, Int.reducePow, reduceCtorEq, ↓reduceIte]
          · refine exq_call (ract49_c x (nth x.apart a.toNat).1 (by omega)) ?_
            simp (disch := omega) only [go_sem, Nat.reduceAdd, Nat.reduceMul, Nat.reduceSub, Nat.reduceLeDiff, Nat.reduceLT, Nat.reduceEqDiff, Nat.reduceBEq, Nat.reduceBNe, Int.reduceNeg, Int.reduceToNat, Int.reduceLT, Int.reduceLE, Int.reduceEq, Int.reduceAdd, Int.reduceMul, Int.reduceSub, Nat.reduceSucc, Nat.reduceGT, Nat.reducePow, Int.reducePow, reduceCtorEq, ↓reduceIte]
            refine aguard_t (fun hq3 => ?_) (fun hq3 => ?_) <;> (try simp only [decide_eq_true_eq, decide_eq_false_iff_not] at hq3) <;> simp (disch := omega) only [Sh.out hq3, go_sem, Nat.reduceAdd, Nat.reduceMul, Nat.reduceSub, Nat.reduceLeDiff, Nat.reduceLT, Nat.reduceEqDiff, Nat.reduceBEq, Nat.reduceBNe, Int.reduceNeg, Int.reduceToNat, Int.reduceLT, Int.reduceLE, Int.reduceEq, Int.reduceAdd, Int.reduceMul, Int.reduceSub, Nat.reduceSucc, Nat.reduceGT, Nat.reducePow, Int.reducePow, reduceCtorEq, ↓reduceIte]
            · refine exq_call (ract49_c x (nth x.apart a.toNat).2 (by omega)) ?_
              simp (disch := omega) only [go_sem, Nat.reduceAdd, Nat.reduceMul, Nat.reduceSub, Nat.reduceLeDiff, Nat.reduceLT, Nat.reduceEqDiff, Nat.reduceBEq, Nat.reduceBNe, Int.reduceNeg, Int.reduceToNat, Int.reduceLT, Int.reduceLE, Int.reduceEq, Int.reduceAdd, Int.reduceMul, Int.reduceSub, Nat.reduceSucc, Nat.reduceGT, Nat.reducePow, Int.reducePow, reduceCtorEq, ↓reduceIte]
              simp [hasI, hq, hq2, hq3]
            · simp [hasI, hq3]
          · simp [hasI, hq2]
        · simp [hasI, hq]
      · by_cases h4 : k = 6
        · subst h4
          simp (disch := omega) only [Try.f73, go_sem, Nat.reduceAdd, Nat.reduceMul, Nat.reduceSub, Nat.reduceLeDiff, Nat.reduceLT, Nat.reduceEqDiff, Nat.reduceBEq, Nat.reduceBNe, Int.reduceNeg, Int.reduceToNat, Int.reduceLT, Int.reduceLE, Int.reduceEq, Int.reduceAdd, Int.reduceMul, Int.reduceSub, Nat.reduceSucc, Nat.reduceGT, Nat.reducePow, Int.reducePow, reduceCtorEq, ↓reduceIte]
          refine awp_drawnA mixed (by kernel_rfl) (by kernel_rfl) ?_
          simp (disch := omega) only [go_sem, Nat.reduceAdd, Nat.reduceMul, Nat.reduceSub, Nat.reduceLeDiff, Nat.reduceLT, Nat.reduceEqDiff, Nat.reduceBEq, Nat.reduceBNe, Int.reduceNeg, Int.reduceToNat, Int.reduceLT, Int.reduceLE, Int.reduceEq, Int.reduceAdd, Int.reduceMul, Int.reduceSub, Nat.reduceSucc, Nat.reduceGT, Nat.reducePow, Int.reducePow, reduceCtorEq, ↓reduceIte]
          refine aguard_t (fun hq => ?_) (fun hq => ?_) <;> (try simp only [decide_eq_true_eq, decide_eq_false_iff_not] at hq) <;> simp (disch := omega) only [Sh.out hq, go_sem, Nat.reduceAdd, Nat.reduceMul, Nat.reduceSub, Nat.reduceLeDiff, Nat.reduceLT, Nat.reduceEqDiff, Nat.reduceBEq, Nat.reduceBNe, Int.reduceNeg, Int.reduceToNat, Int.reduceLT, Int.reduceLE, Int.reduceEq, Int.reduceAdd, Int.reduceMul, Int.reduceSub, Nat.reduceSucc, Nat.reduceGT, Nat.reducePow, Int.reducePow, reduceCtorEq, ↓reduceIte]
          · refine aguard_t (fun hq2 => ?_) (fun hq2 => ?_) <;> (try simp only [decide_eq_true_eq, decide_eq_false_iff_not] at hq2) <;> simp (disch := omega) only [Sh.out hq2, go_sem, Nat.reduceAdd, Nat.reduceMul, Nat.reduceSub, Nat.reduceLeDiff, Nat.reduceLT, Nat.reduceEqDiff, Nat.reduceBEq, Nat.reduceBNe, Int.reduceNeg, Int.reduceToNat, Int.reduceLT, Int.reduceLE, Int.reduceEq, Int.reduceAdd, Int.reduceMul, Int.reduceSub, Nat.reduceSucc, Nat.reduceGT, Nat.reducePow, Int.reducePow, reduceCtorEq, ↓reduceIte]
            · refine exq_call (ract49_c x (nth x.before a.toNat).2 (by omega)) ?_
              simp (disch := omega) only [go_sem, Nat.reduceAdd, Nat.reduceMul, Nat.reduceSub, Nat.reduceLeDiff, Nat.reduceLT, Nat.reduceEqDiff, Nat.reduceBEq, Nat.reduceBNe, Int.reduceNeg, Int.reduceToNat, Int.reduceLT, Int.reduceLE, Int.reduceEq, Int.reduceAdd, Int.reduceMul, Int.reduceSub, Nat.reduceSucc, Nat.reduceGT, Nat.reducePow, Int.reducePow, reduceCtorEq, ↓reduceIte]
              simp [hasI, hq, hq2]
            · simp [hasI, hq2]
          · simp [hasI, hq]
        · have e1 : ¬ k = 1 := by omega
          have e2 : ¬ k = 2 := by omega
          have e3 : ¬ k = 3 := by omega
          have e4 : ¬ k = 4 := by omega
          have e7 : ¬ k = 7 := by omega
          have e8 : ¬ k = 8 := by omega
          have e9 : ¬ k = 9 := by omega
          have e10 : ¬ k = 10 := by omega
          simp (disch := omega) only [Try.f73, hasI, e1, e2, e3, e4, h3, h4, e7, e8, e9, e10, go_sem, Nat.reduceAdd, Nat.reduceMul, Nat.reduceSub, Nat.reduceLeDiff, Nat.reduceLT, Nat.reduceEqDiff, Nat.reduceBEq, Nat.reduceBNe, Int.reduceNeg, Int.reduceToNat, Int.reduceLT, Int.reduceLE, Int.reduceEq, Int.reduceAdd, Int.reduceMul, Int.reduceSub, Nat.reduceSucc, Nat.reduceGT, Nat.reducePow, Int.reducePow, reduceCtorEq, ↓reduceIte]
theorem rindex49_c (l : List Itm) (c : Bool) (v : Itm) (hl : l.length ≤ 1048576) : ACalls Try.prog 79 [.p (.list c (l.map eItm)), .p (eItm v)] [] fun x H' => x = .p (.int .i64 (tIx l v)) ∧ H' = [] := by
  refine acalls_pure (fn := Try.f79) Try.func79 rfl isF79 ?_
  simp (disch := omega) only [Try.f79, go_sem, Nat.reduceAdd, Nat.reduceMul, Nat.reduceSub, Nat.reduceLeDiff, Nat.reduceLT, Nat.reduceEqDiff, Nat.reduceBEq, Nat.reduceBNe, Int.reduceNeg, Int.reduceToNat, Int.reduceLT, Int.reduceLE, Int.reduceEq, Int.reduceAdd, Int.reduceMul, Int.reduceSub, Nat.reduceSucc, Nat.reduceGT, Nat.reducePow, Int.reducePow, reduceCtorEq, ↓reduceIte]
  refine awp_for [0, 3] (fun k : Nat => [(5, .p (.int .i64 k))]) (fun _ => [.cells [.p (.int .i64 v.kind), .p (.int .i64 v.a)]]) (fun k => k ≤ l.length ∧ ∀ j, j < k → ¬ v = nth l j) (fun k => l.length - k) 0 (by simp) (Weak.mk ?_) ?_
  · simp (disch := omega) only [go_sem, Nat.reduceAdd, Nat.reduceMul, Nat.reduceSub, Nat.reduceLeDiff, Nat.reduceLT, Nat.reduceEqDiff, Nat.reduceBEq, Nat.reduceBNe, Int.reduceNeg, Int.reduceToNat, Int.reduceLT, Int.reduceLE, Int.reduceEq, Int.reduceAdd, Int.reduceMul, Int.reduceSub, Nat.reduceSucc, Nat.reduceGT, Nat.reducePow, Int.reducePow, reduceCtorEq, ↓reduceIte]
  · rintro k ⟨hk, hno⟩
    simp (disch := omega) only [go_sem, Nat.reduceAdd, Nat.reduceMul, Nat.reduceSub, Nat.reduceLeDiff, Nat.reduceLT, Nat.reduceEqDiff, Nat.reduceBEq, Nat.reduceBNe, Int.reduceNeg, Int.reduceToNat, Int.reduceLT, Int.reduceLE, Int.reduceEq, Int.reduceAdd, Int.reduceMul, Int.reduceSub, Nat.reduceSucc, Nat.reduceGT, Nat.reducePow, Int.reducePow, reduceCtorEq, ↓reduceIte]
    refine acond_b (fun h => ?_) (fun h => ?_) <;> (try simp only [decide_eq_true_eq, decide_eq_false_iff_not] at h) <;> simp (disch := omega) only [Sh.out h, go_sem, Nat.reduceAdd, Nat.reduceMul, Nat.reduceSub, Nat.reduceLeDiff, Nat.reduceLT, Nat.reduceEqDiff, Nat.reduceBEq, Nat.reduceBNe, Int.reduceNeg, Int.reduceToNat, Int.reduceLT, Int.reduceLE, Int.reduceEq, Int.reduceAdd, Int.reduceMul, Int.reduceSub, Nat.reduceSucc, Nat.reduceGT, Nat.reducePow, Int.reducePow, reduceCtorEq, ↓reduceIte]
    · have hk2 : k < l.length := by omega
      refine awp_drawnA mixed (by kernel_rfl) (by kernel_rfl) ?_
      simp (disch := omega) only [go_sem, Nat.reduceAdd, Nat.reduceMul, Nat.reduceSub, Nat.reduceLeDiff, Nat.reduceLT, Nat.reduceEqDiff, Nat.reduceBEq, Nat.reduceBNe, Int.reduceNeg, Int.reduceToNat, Int.reduceLT, Int.reduceLE, Int.reduceEq, Int.reduceAdd, Int.reduceMul, Int.reduceSub, Nat.reduceSucc, Nat.reduceGT, Nat.reducePow, Int.reducePow, reduceCtorEq, ↓reduceIte]
      refine acond_b (fun h2 => ?_) (fun h2 => ?_) <;> (try simp only [decide_eq_true_eq, decide_eq_false_iff_not] at h2) <;> simp (disch := omega) only [Sh.out h2, go_sem, Nat.reduceAdd, Nat.reduceMul, Nat.reduceSub, Nat.reduceLeDiff, Nat.reduceLT, Nat.reduceEqDiff, Nat.reduceBEq, Nat.reduceBNe, Int.reduceNeg, Int.reduceToNat, Int.reduceLT, Int.reduceLE, Int.reduceEq, Int.reduceAdd, Int.reduceMul, Int.reduceSub, Nat.reduceSucc, Nat.reduceGT, Nat.reducePow, Int.reducePow, reduceCtorEq, ↓reduceIte]
      · have : v = nth l k := by rw [itm_eq]; first | omega | (simp at h2; omega)
        rw [tIx_at hk2 this hno]
      · have : ¬ v = nth l k := by rw [itm_eq]; first | omega | (simp at h2; omega)
        exact ⟨k + 1, ⟨by omega, upto_iff.2 ⟨hno, this⟩⟩, by omega, Weak.mk (by simp (disch := omega) only [go_sem, Nat.reduceAdd, Nat.reduceMul, Nat.reduceSub, Nat.reduceLeDiff, Nat.reduceLT, Nat.reduceEqDiff, Nat.reduceBEq, Nat.reduceBNe, Int.reduceNeg, Int.reduceToNat, Int.reduceLT, Int.reduceLE, Int.reduceEq, Int.reduceAdd, Int.reduceMul, Int.reduceSub, Nat.reduceSucc, Nat.reduceGT, Nat.reducePow, Int.reducePow, reduceCtorEq, ↓reduceIte])⟩
    · have hkl : k = l.length := by omega
      subst hkl
      rw [tIx_no hno]
theorem tIx_neg {l : List Itm} {v : Itm} : tIx l v < 0 ↔ ¬ v ∈ l := by rw [← tIx_mem]; omega
theorem rpairs49_c (l : List (Int × Int)) (w : List Itm) (kind : Int) (c d : Bool) (hl : l.length ≤ 1048576) (hw : w.length ≤ 1048576) : ACalls Try.prog 80 [.p (.list c (l.map eP)), .p (.list d (w.map eItm)), .p (.int .i64 kind)] [] fun y H' => y = .p (.list false ((keepP l w kind l.length).map eP)) ∧ H' = [] := by
  refine ACalls.frozen (S := 2) (n := (keepP l w kind l.length).length) (by simp) ?_
  suffices hh : ACalls Try.prog 80 [.p (.list c (l.map eP)), .p (.list d (w.map eItm)), .p (.int .i64 kind)] [] fun y H' => ∃ m : List (Int × Int), m = keepP l w kind l.length ∧ y = .sl 0 0 m.length m.length ∧ H' = [.elems 2 (m.map eP)] by
    refine hh.mono ?_
    rintro x H' ⟨m, rfl, h1, h2⟩
    exact ⟨h1, h2⟩
  refine acalls_freshE [2] (fn := Try.f80) Try.func80 rfl isF80 ?_
  simp (disch := omega) only [Try.f80, go_sem, Nat.reduceAdd, Nat.reduceMul, Nat.reduceSub, Nat.reduceLeDiff, Nat.reduceLT, Nat.reduceEqDiff, Nat.reduceBEq, Nat.reduceBNe, Int.reduceNeg, Int.reduceToNat, Int.reduceLT, Int.reduceLE, Int.reduceEq, Int.reduceAdd, Int.reduceMul, Int.reduceSub, Nat.reduceSucc, Nat.reduceGT, Nat.reducePow, Int.reducePow, reduceCtorEq, ↓reduceIte]
  refine awp_weak (Weak.ofNil 7 2 (by simp (disch := omega) only [go_sem, Nat.reduceAdd, Nat.reduceMul, Nat.reduceSub, Nat.reduceLeDiff, Nat.reduceLT, Nat.reduceEqDiff, Nat.reduceBEq, Nat.reduceBNe, Int.reduceNeg, Int.reduceToNat, Int.reduceLT, Int.reduceLE, Int.reduceEq, Int.reduceAdd, Int.reduceMul, Int.reduceSub, Nat.reduceSucc, Nat.reduceGT, Nat.reducePow, Int.reducePow, reduceCtorEq, ↓reduceIte]) (by simp) (Weak.refl _ _ _)) ?_
  refine awp_sound [] _ _ _ _ ?_
  simp (disch := omega) only [go_sem, Nat.reduceAdd, Nat.reduceMul, Nat.reduceSub, Nat.reduceLeDiff, Nat.reduceLT, Nat.reduceEqDiff, Nat.reduceBEq, Nat.reduceBNe, Int.reduceNeg, Int.reduceToNat, Int.reduceLT, Int.reduceLE, Int.reduceEq, Int.reduceAdd, Int.reduceMul, Int.reduceSub, Nat.reduceSucc, Nat.reduceGT, Nat.reducePow, Int.reducePow, reduceCtorEq, ↓reduceIte]
  refine awp_for [0, 1, 2] (fun q : Nat × List (Int × Int) => [(7, .sl 0 0 q.2.length q.2.length), (8, .p (.int .i64 q.1))]) (fun q => [.elems 2 (q.2.map eP)]) (fun q => q.1 ≤ l.length ∧ q.2 = keepP l w kind q.1) (fun q => l.length - q.1) (0, []) ⟨by simp, by simp [keepP]⟩ (Weak.mk ?_) ?_
  · simp (disch := omega) only [go_sem, Nat.reduceAdd, Nat.reduceMul, Nat.reduceSub, Nat.reduceLeDiff, Nat.reduceLT, Nat.reduceEqDiff, Nat.reduceBEq, Nat.reduceBNe, Int.reduceNeg, Int.reduceToNat, Int.reduceLT, Int.reduceLE, Int.reduceEq, Int.reduceAdd, Int.reduceMul, Int.reduceSub, Nat.reduceSucc, Nat.reduceGT, Nat.reducePow, Int.reducePow, reduceCtorEq, ↓reduceIte]
  · rintro ⟨k, m⟩ ⟨hk, hm⟩
    simp only at hk hm
    have hml := keepP_len l w kind k
    rw [← hm] at hml
    have hs := keepP_succ l w kind k
    simp (disch := omega) only [go_sem, Nat.reduceAdd, Nat.reduceMul, Nat.reduceSub, Nat.reduceLeDiff, Nat.reduceLT, Nat.reduceEqDiff, Nat.reduceBEq, Nat.reduceBNe, Int.reduceNeg, Int.reduceToNat, Int.reduceLT, Int.reduceLE, Int.reduceEq, Int.reduceAdd, Int.reduceMul, Int.reduceSub, Nat.reduceSucc, Nat.reduceGT, Nat.reducePow, Int.reducePow, reduceCtorEq, ↓reduceIte]
    refine acond_b (fun h => ?_) (fun h => ?_) <;> (try simp only [decide_eq_true_eq, decide_eq_false_iff_not] at h) <;> simp (disch := omega) only [Sh.out h, go_sem, Nat.reduceAdd, Nat.reduceMul, Nat.reduceSub, Nat.reduceLeDiff, Nat.reduceLT, Nat.reduceEqDiff, Nat.reduceBEq, Nat.reduceBNe, Int.reduceNeg, Int.reduceToNat, Int.reduceLT, Int.reduceLE, Int.reduceEq, Int.reduceAdd, Int.reduceMul, Int.reduceSub, Nat.reduceSucc, Nat.reduceGT, Nat.reducePow, Int.reducePow, reduceCtorEq, ↓reduceIte]
    · have hk2 : k < l.length := by omega
      refine (rindex49_c w d ⟨kind, k⟩ hw).use ?_
      simp (disch := omega) only [go_sem, Nat.reduceAdd, Nat.reduceMul, Nat.reduceSub, Nat.reduceLeDiff, Nat.reduceLT, Nat.reduceEqDiff, Nat.reduceBEq, Nat.reduceBNe, Int.reduceNeg, Int.reduceToNat, Int.reduceLT, Int.reduceLE, Int.reduceEq, Int.reduceAdd, Int.reduceMul, Int.reduceSub, Nat.reduceSucc, Nat.reduceGT, Nat.reducePow, Int.reducePow, reduceCtorEq, ↓reduceIte]
      refine acond_b (fun h2 => ?_) (fun h2 => ?_) <;> (try simp only [decide_eq_true_eq, decide_eq_false_iff_not] at h2) <;> simp (disch := omega) only [Sh.out h2, go_sem, Nat.reduceAdd, Nat.reduceMul, Nat.reduceSub, Nat.reduceLeDiff, Nat.reduceLT, Nat.reduceEqDiff, Nat.reduceBEq, Nat.reduceBNe, Int.reduceNeg, Int.reduceToNat, Int.reduceLT, Int.reduceLE, Int.reduceEq, Int.reduceAdd, Int.reduceMul, Int.reduceSub, Nat.reduceSucc, Nat.reduceGT, Nat.reducePow, Int.reducePow, reduceCtorEq, ↓reduceIte]
      · have h3 : ¬ (⟨kind, k⟩ : Itm) ∈ w := tIx_neg.1 h2
        exact ⟨(k + 1, m ++ [nth l k]), ⟨by simp only; omega, by simp only [hs, h3, if_false, hm]⟩, by simp only; omega, Weak.mk (by simp (disch := omega) only [go_sem, Nat.reduceAdd, Nat.reduceMul, Nat.reduceSub, Nat.reduceLeDiff, Nat.reduceLT, Nat.reduceEqDiff, Nat.reduceBEq, Nat.reduceBNe, Int.reduceNeg, Int.reduceToNat, Int.reduceLT, Int.reduceLE, Int.reduceEq, Int.reduceAdd, Int.reduceMul, Int.reduceSub, Nat.reduceSucc, Nat.reduceGT, Nat.reducePow, Int.reducePow, reduceCtorEq, ↓reduceIte])⟩
      · have h3 : (⟨kind, k⟩ : Itm) ∈ w := by rw [tIx_neg, Classical.not_not] at h2; exact h2
        exact ⟨(k + 1, m), ⟨by simp only; omega, by simp only [hs, h3, if_true, hm, List.append_nil]⟩, by simp only; omega, Weak.mk (by simp (disch := omega) only [go_sem, Nat.reduceAdd, Nat.reduceMul, Nat.reduceSub, Nat.reduceLeDiff, Nat.reduceLT, Nat.reduceEqDiff, Nat.reduceBEq, Nat.reduceBNe, Int.reduceNeg, Int.reduceToNat, Int.reduceLT, Int.reduceLE, Int.reduceEq, Int.reduceAdd, Int.reduceMul, Int.reduceSub, Nat.reduceSucc, Nat.reduceGT, Nat.reducePow, Int.reducePow, reduceCtorEq, ↓reduceIte])⟩
    · have hkl : k = l.length := by omega
      subst hkl
      exact ⟨m, hm, 0, by simp (disch := omega) only [go_sem, Nat.reduceAdd, Nat.reduceMul, Nat.reduceSub, Nat.reduceLeDiff, Nat.reduceLT, Nat.reduceEqDiff, Nat.reduceBEq, Nat.reduceBNe, Int.reduceNeg, Int.reduceToNat, Int.reduceLT, Int.reduceLE, Int.reduceEq, Int.reduceAdd, Int.reduceMul, Int.reduceSub, Nat.reduceSucc, Nat.reduceGT, Nat.reducePow, Int.reducePow, reduceCtorEq, ↓reduceIte]⟩
theorem refK_len (x k) : ∀ n, (refK x k n).length ≤ n
  | 0 => by simp [refK]
  | n + 1 => by
    have h1 := refK_len x k n
    have h2 : (ref1 x k n).length ≤ 1 := by unfold ref1; split <;> simp
    rw [refK_succ, List.length_append]; omega
theorem refI_lenN (x) : ∀ n, (refI x n).length ≤ n * mostI x
  | 0 => by simp [refI]
  | n + 1 => by
    have h1 := refI_lenN x n
    have h2 := refK_len x n (mostI x)
    rw [refI_succ, List.length_append, Nat.add_mul]; omega
theorem ritems_c (x : Inst) (h : ISz x) : ACalls Try.prog 36 [.p (eInst x)] [] fun y H' => y = .p (.list false ((refI x 10).map eItm)) ∧ H' = [] := by
  have s1 := h.ord
  have s2 := h.typ
  have s3 := h.ap
  have s4 := h.be
  have hrl := refI_len h
  refine ACalls.frozen (S := 2) (n := (refI x 10).length) (by simp) ?_
  suffices hh : ACalls Try.prog 36 [.p (eInst x)] [] fun y H' => ∃ m : List Itm, m = refI x 10 ∧ y = .sl 0 0 m.length m.length ∧ H' = [.elems 2 (m.map eItm)] by
    refine hh.mono ?_
    rintro x H' ⟨m, rfl, h1, h2⟩
    exact ⟨h1, h2⟩
  have hm1 : mostI x ≤ 1000 := by unfold mostI; omega
  have hmost : max (max (max (x.orders.length : Int) x.types.length) x.apart.length) x.before.length = (mostI x : Int) := by unfold mostI; omega
  refine acalls_freshE [1] (fn := Try.f36) Try.func36 rfl isF36 ?_
  simp (disch := omega) only [Try.f36, go_sem, Nat.reduceAdd, Nat.reduceMul, Nat.reduceSub, Nat.reduceLeDiff, Nat.reduceLT, Nat.reduceEqDiff, Nat.reduceBEq, Nat.reduceBNe, Int.reduceNeg, Int.reduceToNat, Int.reduceLT, Int.reduceLE, Int.reduceEq, Int.reduceAdd, Int.reduceMul, Int.reduceSub, Nat.reduceSucc, Nat.reduceGT, Nat.reducePow, Int.reducePow, reduceCtorEq, ↓reduceIte]
  refine awp_seq (awp_opn 12 (by rfl) (by rfl) ?_)
  simp (disch := omega) only [go_sem, Nat.reduceAdd, Nat.reduceMul, Nat.reduceSub, Nat.reduceLeDiff, Nat.reduceLT, Nat.reduceEqDiff, Nat.reduceBEq, Nat.reduceBNe, Int.reduceNeg, Int.reduceToNat, Int.reduceLT, Int.reduceLE, Int.reduceEq, Int.reduceAdd, Int.reduceMul, Int.reduceSub, Nat.reduceSucc, Nat.reduceGT, Nat.reducePow, Int.reducePow, reduceCtorEq, ↓reduceIte]
  refine ⟨_, pure_max4 rfl rfl rfl rfl rfl, ?_⟩
  rw [hmost]
  have hrn := refI_lenN x
  have hsK := refK_succ x
  have hsI := refI_succ x
  have hlK := refK_len x
  generalize mostI x = M at hm1 hrn hsI
  refine awp_sound [3] _ _ _ _ ?_
  simp (disch := omega) only [go_sem, Nat.reduceAdd, Nat.reduceMul, Nat.reduceSub, Nat.reduceLeDiff, Nat.reduceLT, Nat.reduceEqDiff, Nat.reduceBEq, Nat.reduceBNe, Int.reduceNeg, Int.reduceToNat, Int.reduceLT, Int.reduceLE, Int.reduceEq, Int.reduceAdd, Int.reduceMul, Int.reduceSub, Nat.reduceSucc, Nat.reduceGT, Nat.reducePow, Int.reducePow, reduceCtorEq, ↓reduceIte]
  refine awp_weak (Weak.ofNil 4 2 (by simp (disch := omega) only [go_sem, Nat.reduceAdd, Nat.reduceMul, Nat.reduceSub, Nat.reduceLeDiff, Nat.reduceLT, Nat.reduceEqDiff, Nat.reduceBEq, Nat.reduceBNe, Int.reduceNeg, Int.reduceToNat, Int.reduceLT, Int.reduceLE, Int.reduceEq, Int.reduceAdd, Int.reduceMul, Int.reduceSub, Nat.reduceSucc, Nat.reduceGT, Nat.reducePow, Int.reducePow, reduceCtorEq, ↓reduceIte]) (by simp) (Weak.refl _ _ _)) ?_
  refine awp_sound [] _ _ _ _ ?_
  simp (disch := omega) only [go_sem, Nat.reduceAdd, Nat.reduceMul, Nat.reduceSub, Nat.reduceLeDiff, Nat.reduceLT, Nat.reduceEqDiff, Nat.reduceBEq, Nat.reduceBNe, Int.reduceNeg, Int.reduceToNat, Int.reduceLT, Int.reduceLE, Int.reduceEq, Int.reduceAdd, Int.reduceMul, Int.reduceSub, Nat.reduceSucc, Nat.reduceGT, Nat.reducePow, Int.reducePow, reduceCtorEq, ↓reduceIte]
  refine awp_for [1, 3] (fun q : Nat × List Itm => [(4, .sl 1 0 q.2.length q.2.length), (5, .p (.int .i64 (q.1 + 1)))]) (fun q => [instO x, .elems 2 (q.2.map eItm)]) (fun q => q.1 ≤ 10 ∧ q.2 = refI x q.1) (fun q => 10 - q.1) (0, []) ⟨by simp, by simp [refI]⟩ (Weak.mk ?_) ?_
  · simp (disch := omega) only [instO, go_sem, Nat.reduceAdd, Nat.reduceMul, Nat.reduceSub, Nat.reduceLeDiff, Nat.reduceLT, Nat.reduceEqDiff, Nat.reduceBEq, Nat.reduceBNe, Int.reduceNeg, Int.reduceToNat, Int.reduceLT, Int.reduceLE, Int.reduceEq, Int.reduceAdd, Int.reduceMul, Int.reduceSub, Nat.reduceSucc, Nat.reduceGT, Nat.reducePow, Int.reducePow, reduceCtorEq, ↓reduceIte]
  · rintro ⟨k, m⟩ ⟨hk, hm⟩
    simp only at hk hm
    have hml := hrn k
    rw [← hm] at hml
    have hml2 : k * M ≤ 10 * 1000 := Nat.mul_le_mul hk hm1
    simp (disch := omega) only [instO, go_sem, Nat.reduceAdd, Nat.reduceMul, Nat.reduceSub, Nat.reduceLeDiff, Nat.reduceLT, Nat.reduceEqDiff, Nat.reduceBEq, Nat.reduceBNe, Int.reduceNeg, Int.reduceToNat, Int.reduceLT, Int.reduceLE, Int.reduceEq, Int.reduceAdd, Int.reduceMul, Int.reduceSub, Nat.reduceSucc, Nat.reduceGT, Nat.reducePow, Int.reducePow, reduceCtorEq, ↓reduceIte]
    refine acond_b (fun hq => ?_) (fun hq => ?_) <;> (try simp only [decide_eq_true_eq, decide_eq_false_iff_not] at hq) <;> simp (disch := omega) only [Sh.out hq, go_sem, Nat.reduceAdd, Nat.reduceMul, Nat.reduceSub, Nat.reduceLeDiff, Nat.reduceLT, Nat.reduceEqDiff, Nat.reduceBEq, Nat.reduceBNe, Int.reduceNeg, Int.reduceToNat, Int.reduceLT, Int.reduceLE, Int.reduceEq, Int.reduceAdd, Int.reduceMul, Int.reduceSub, Nat.reduceSucc, Nat.reduceGT, Nat.reducePow, Int.reducePow, reduceCtorEq, ↓reduceIte]
    · have hk2 : k < 10 := by omega
      refine awp_for [1, 3, 5] (fun q : Nat × List Itm => [(4, .sl 1 0 q.2.length q.2.length), (6, .p (.int .i64 q.1))]) (fun q => [instO x, .elems 2 (q.2.map eItm)]) (fun q => q.1 ≤ M ∧ q.2 = m ++ refK x k q.1) (fun q => M - q.1) (0, m) ⟨by simp, by simp [refK]⟩ (Weak.mk ?_) ?_
      · simp (disch := omega) only [instO, go_sem, Nat.reduceAdd, Nat.reduceMul, Nat.reduceSub, Nat.reduceLeDiff, Nat.reduceLT, Nat.reduceEqDiff, Nat.reduceBEq, Nat.reduceBNe, Int.reduceNeg, Int.reduceToNat, Int.reduceLT, Int.reduceLE, Int.reduceEq, Int.reduceAdd, Int.reduceMul, Int.reduceSub, Nat.reduceSucc, Nat.reduceGT, Nat.reducePow, Int.reducePow, reduceCtorEq, ↓reduceIte]
      · rintro ⟨a, m2⟩ ⟨ha, hm2⟩
        simp only at ha hm2
        have hm2l := hlK k a
        have hm2l2 : m2.length = m.length + (refK x k a).length := by rw [hm2, List.length_append]
        have hs := hsK k a
        simp (disch := omega) only [instO, go_sem, Nat.reduceAdd, Nat.reduceMul, Nat.reduceSub, Nat.reduceLeDiff, Nat.reduceLT, Nat.reduceEqDiff, Nat.reduceBEq, Nat.reduceBNe, Int.reduceNeg, Int.reduceToNat, Int.reduceLT, Int.reduceLE, Int.reduceEq, Int.reduceAdd, Int.reduceMul, Int.reduceSub, Nat.reduceSucc, Nat.reduceGT, Nat.reducePow, Int.reducePow, reduceCtorEq, ↓reduceIte]
        refine acond_b (fun h2 => ?_) (fun h2 => ?_) <;> (try simp only [decide_eq_true_eq, decide_eq_false_iff_not] at h2) <;> simp (disch := omega) only [Sh.out h2, go_sem, Nat.reduceAdd, Nat.reduceMul, Nat.reduceSub, Nat.reduceLeDiff, Nat.reduceLT, Nat.reduceEqDiff, Nat.reduceBEq, Nat.reduceBNe, Int.reduceNeg, Int.reduceToNat, Int.reduceLT, Int.reduceLE, Int.reduceEq, Int.reduceAdd, Int.reduceMul, Int.reduceSub, Nat.reduceSucc, Nat.reduceGT, Nat.reducePow, Int.reducePow, reduceCtorEq, ↓reduceIte]
        · have ha2 : a < M := by omega
          refine (rhas49_c x h ⟨(k : Int) + 1, a⟩).use ?_
          simp (disch := omega) only [go_sem, Nat.reduceAdd, Nat.reduceMul, Nat.reduceSub, Nat.reduceLeDiff, Nat.reduceLT, Nat.reduceEqDiff, Nat.reduceBEq, Nat.reduceBNe, Int.reduceNeg, Int.reduceToNat, Int.reduceLT, Int.reduceLE, Int.reduceEq, Int.reduceAdd, Int.reduceMul, Int.reduceSub, Nat.reduceSucc, Nat.reduceGT, Nat.reducePow, Int.reducePow, reduceCtorEq, ↓reduceIte]
          refine acond_b (fun h3 => ?_) (fun h3 => ?_) <;> (try simp only [decide_eq_true_eq, decide_eq_false_iff_not] at h3) <;> simp (disch := omega) only [Sh.out h3, go_sem, Nat.reduceAdd, Nat.reduceMul, Nat.reduceSub, Nat.reduceLeDiff, Nat.reduceLT, Nat.reduceEqDiff, Nat.reduceBEq, Nat.reduceBNe, Int.reduceNeg, Int.reduceToNat, Int.reduceLT, Int.reduceLE, Int.reduceEq, Int.reduceAdd, Int.reduceMul, Int.reduceSub, Nat.reduceSucc, Nat.reduceGT, Nat.reducePow, Int.reducePow, reduceCtorEq, ↓reduceIte]
          · exact ⟨(a + 1, m2 ++ [⟨(k : Int) + 1, a⟩]), ⟨by simp only; omega, by simp only [hs, ref1, h3, if_true, hm2, List.append_assoc]⟩, by simp only; omega, Weak.mk (by simp (disch := omega) only [instO, go_sem, Nat.reduceAdd, Nat.reduceMul, Nat.reduceSub, Nat.reduceLeDiff, Nat.reduceLT, Nat.reduceEqDiff, Nat.reduceBEq, Nat.reduceBNe, Int.reduceNeg, Int.reduceToNat, Int.reduceLT, Int.reduceLE, Int.reduceEq, Int.reduceAdd, Int.reduceMul, Int.reduceSub, Nat.reduceSucc, Nat.reduceGT, Nat.reducePow, Int.reducePow, reduceCtorEq, ↓reduceIte])⟩
          · exact ⟨(a + 1, m2), ⟨by simp only; omega, by simp [hs, ref1, h3, hm2]⟩, by simp only; omega, Weak.mk (by simp (disch := omega) only [instO, go_sem, Nat.reduceAdd, Nat.reduceMul, Nat.reduceSub, Nat.reduceLeDiff, Nat.reduceLT, Nat.reduceEqDiff, Nat.reduceBEq, Nat.reduceBNe, Int.reduceNeg, Int.reduceToNat, Int.reduceLT, Int.reduceLE, Int.reduceEq, Int.reduceAdd, Int.reduceMul, Int.reduceSub, Nat.reduceSucc, Nat.reduceGT, Nat.reducePow, Int.reducePow, reduceCtorEq, ↓reduceIte])⟩
        · have haM : a = M := by omega
          subst haM
          exact ⟨(k + 1, m2), ⟨by simp only; omega, by simp only [hsI, hm2, hm]⟩, by simp only; omega, Weak.mk (by simp (disch := omega) only [instO, go_sem, Nat.reduceAdd, Nat.reduceMul, Nat.reduceSub, Nat.reduceLeDiff, Nat.reduceLT, Nat.reduceEqDiff, Nat.reduceBEq, Nat.reduceBNe, Int.reduceNeg, Int.reduceToNat, Int.reduceLT, Int.reduceLE, Int.reduceEq, Int.reduceAdd, Int.reduceMul, Int.reduceSub, Nat.reduceSucc, Nat.reduceGT, Nat.reducePow, Int.reducePow, reduceCtorEq, ↓reduceIte])⟩
    · have hk10 : k = 10 := by omega
      subst hk10
      exact ⟨m, hm, 1, by simp (disch := omega) only [instO, go_sem, Nat.reduceAdd, Nat.reduceMul, Nat.reduceSub, Nat.reduceLeDiff, Nat.reduceLT, Nat.reduceEqDiff, Nat.reduceBEq, Nat.reduceBNe, Int.reduceNeg, Int.reduceToNat, Int.reduceLT, Int.reduceLE, Int.reduceEq, Int.reduceAdd, Int.reduceMul, Int.reduceSub, Nat.reduceSucc, Nat.reduceGT, Nat.reducePow, Int.reducePow, reduceCtorEq, ↓reduceIte]⟩
end Go.Proofs.Ytlbhefiehkmhjaa.K
set_option linter.unusedVariables false
set_option linter.unusedSimpArgs false
namespace Go.Proofs.Ytlbhefiehkmhjaa.K
open Go Go.AM Go.Proofs
set_option maxRecDepth 8000
set_option maxHeartbeats 2000000
/-- an order without the rules of a list -/
def ordL (o : Ord) (at' : Int) (l : List Itm) : Ord := { o with
  pick := { o.pick with cls := if (⟨1, at'⟩ : Itm) ∈ l then 4096 else o.pick.cls }
  drp := { o.drp with cls := if (⟨2, at'⟩ : Itm) ∈ l then 4096 else o.drp.cls }
  skills := if (⟨4, at'⟩ : Itm) ∈ l then 0 else o.skills
  penalty := if (⟨10, at'⟩ : Itm) ∈ l then 0 else o.penalty }
def typL (t : Typ) (at' : Int) (l : List Itm) : Typ := { t with
  cap_c := if (⟨3, at'⟩ : Itm) ∈ l then false else t.cap_c
  cap := if (⟨3, at'⟩ : Itm) ∈ l then List.replicate t.cap.length 1000 else t.cap
  cls := if (⟨7, at'⟩ : Itm) ∈ l then 4096 else t.cls
  drive := if (⟨8, at'⟩ : Itm) ∈ l then 4096 else t.drive
  count := if (⟨9, at'⟩ : Itm) ∈ l then 10 else t.count }
theorem ordL_nil (o a) : ordL o a [] = o := by simp [ordL]
theorem typL_nil (o a) : typL o a [] = o := by simp [typL]
theorem ordL_snoc (o a l) (v : Itm) : ordL o a (l ++ [v]) = if v.a = a then ordW (ordL o a l) v.kind else ordL o a l := by
  obtain ⟨k, b⟩ := v
  by_cases h : b = a
  · subst h
    by_cases h1 : k = 1
    · subst h1; simp [ordL, ordW, itm_eq]
    · by_cases h2 : k = 2
      · subst h2; simp [ordL, ordW, itm_eq]
      · by_cases h4 : k = 4
        · subst h4; simp [ordL, ordW, itm_eq]
        · by_cases h10 : k = 10
          · subst h10; simp [ordL, ordW, itm_eq]
          · have e1 : ¬ 1 = k := fun h => h1 h.symm
            have e2 : ¬ 2 = k := fun h => h2 h.symm
            have e4 : ¬ 4 = k := fun h => h4 h.symm
            have e10 : ¬ 10 = k := fun h => h10 h.symm
            simp [ordL, ordW, itm_eq, h1, h2, h4, h10, e1, e2, e4, e10]
  · have e : ¬ a = b := fun h2 => h h2.symm
    simp [ordL, itm_eq, h, e]
theorem typL_snoc (o a l) (v : Itm) : typL o a (l ++ [v]) = if v.a = a then typW (typL o a l) v.kind else typL o a l := by
  obtain ⟨k, b⟩ := v
  by_cases h : b = a
  · subst h
    by_cases h1 : k = 3
    · subst h1; simp [typL, typW, itm_eq]; split <;> simp
    · by_cases h2 : k = 7
      · subst h2; simp [typL, typW, itm_eq]
      · by_cases h4 : k = 8
        · subst h4; simp [typL, typW, itm_eq]
        · by_cases h10 : k = 9
          · subst h10; simp [typL, typW, itm_eq]
          · have e1 : ¬ 3 = k := fun h => h1 h.symm
            have e2 : ¬ 7 = k := fun h => h2 h.symm
            have e4 : ¬ 8 = k := fun h => h4 h.symm
            have e10 : ¬ 9 = k := fun h => h10 h.symm
            simp [typL, typW, itm_eq, h1, h2, h4, h10, e1, e2, e4, e10]
  · have e : ¬ a = b := fun h2 => h h2.symm
    simp [typL, itm_eq, h, e]
def ordsL (os : List Ord) (w : List Itm) : List Ord := (List.range os.length).map fun (i : Nat) => ordL (nth os i) i w
def typsL (ts : List Typ) (w : List Itm) : List Typ := (List.range ts.length).map fun (i : Nat) => typL (nth ts i) i w
theorem ordsL_len (os w) : (ordsL os w).length = os.length := by simp [ordsL]
theorem typsL_len (os w) : (typsL os w).length = os.length := by simp [typsL]
theorem nth_map_range {α : Type} [Inhabited α] {f : Nat → α} {n i : Nat} (h : i < n) : nth ((List.range n).map f) i = f i := by
  rw [nth_get (by simpa using h)]; simp
theorem ordsL_nth {os w i} (h : i < os.length) : nth (ordsL os w) i = ordL (nth os i) i w := nth_map_range h
theorem typsL_nth {os w i} (h : i < os.length) : nth (typsL os w) i = typL (nth os i) i w := nth_map_range h
theorem map_range_nth {α : Type} [Inhabited α] (l : List α) : (List.range l.length).map (fun i => nth l i) = l := by
  apply List.ext_getElem
  · simp
  · intro i h1 h2
    simp [nth_get h2]
theorem ordsL_nil (os) : ordsL os [] = os := by simp only [ordsL, ordL_nil]; exact map_range_nth os
theorem typsL_nil (os) : typsL os [] = os := by simp only [typsL, typL_nil]; exact map_range_nth os
theorem ordW_other {o : Ord} {k : Int} (h : k = 3 ∨ k = 7 ∨ k = 8 ∨ k = 9 ∨ k = 5 ∨ k = 6) : ordW o k = o := by
  unfold ordW
  rw [if_neg (by omega), if_neg (by omega), if_neg (by omega), if_neg (by omega)]
theorem typW_other {o : Typ} {k : Int} (h : k = 1 ∨ k = 2 ∨ k = 4 ∨ k = 10 ∨ k = 5 ∨ k = 6) : typW o k = o := by
  unfold typW
  rw [if_neg (by omega), if_neg (by omega), if_neg (by omega), if_neg (by omega)]
theorem ordsL_set {os : List Ord} {w : List Itm} {v : Itm} {i : Nat} (hi : i < os.length) (hv : v.a = (i : Int)) : (ordsL os w).set i (ordW (nth (ordsL os w) i) v.kind) = ordsL os (w ++ [v]) := by
  rw [ordsL_nth hi]
  apply List.ext_getElem
  · simp [ordsL]
  · intro j h1 h2
    have hj : j < os.length := by simpa [ordsL] using h2
    rw [List.getElem_set]
    simp only [ordsL, List.getElem_map, List.getElem_range, ordL_snoc, hv]
    by_cases e : i = j
    · subst e; simp
    · have : ¬ (i : Int) = j := by omega
      simp [e, this]
theorem typsL_set {os : List Typ} {w : List Itm} {v : Itm} {i : Nat} (hi : i < os.length) (hv : v.a = (i : Int)) : (typsL os w).set i (typW (nth (typsL os w) i) v.kind) = typsL os (w ++ [v]) := by
  rw [typsL_nth hi]
  apply List.ext_getElem
  · simp [typsL]
  · intro j h1 h2
    have hj : j < os.length := by simpa [typsL] using h2
    rw [List.getElem_set]
    simp only [typsL, List.getElem_map, List.getElem_range, typL_snoc, hv]
    by_cases e : i = j
    · subst e; simp
    · have : ¬ (i : Int) = j := by omega
      simp [e, this]
theorem ordsL_other {os : List Ord} {w : List Itm} {v : Itm} (h : v.kind = 3 ∨ v.kind = 7 ∨ v.kind = 8 ∨ v.kind = 9 ∨ v.kind = 5 ∨ v.kind = 6) : ordsL os (w ++ [v]) = ordsL os w := by
  simp only [ordsL, ordL_snoc, ordW_other h, ite_self]
theorem typsL_other {os : List Typ} {w : List Itm} {v : Itm} (h : v.kind = 1 ∨ v.kind = 2 ∨ v.kind = 4 ∨ v.kind = 10 ∨ v.kind = 5 ∨ v.kind = 6) : typsL os (w ++ [v]) = typsL os w := by
  simp only [typsL, typL_snoc, typW_other h, ite_self]
/-- the instance without the rules of a list -/
def withoutI (x : Inst) (l : List Itm) : Inst := ⟨x.net, false, typsL x.types l, false, ordsL x.orders l, false, keepP x.apart l 5 x.apart.length, false, keepP x.before l 6 x.before.length⟩
def errAt (x : Inst) (l : List Itm) (i : Nat) : Int := if hasI x (nth l i) = true then (if nth l i ∈ l.take i then 6 else 0) else 7
def errW (x : Inst) (l : List Itm) : Int := (((List.range l.length).map (errAt x l)).find? fun e => decide (e ≠ 0)).getD 0
theorem errW_at {x : Inst} {l : List Itm} {k : Nat} (hk : k < l.length) (h0 : ∀ j, j < k → errAt x l j = 0) (h : errAt x l k ≠ 0) : errW x l = errAt x l k := by
  have : ((List.range l.length).map (errAt x l)).find? (fun e => decide (e ≠ 0)) = some (errAt x l k) := by
    rw [List.find?_eq_some_iff_getElem]
    refine ⟨by simpa using h, k, by simpa using hk, by simp, fun j hj => ?_⟩
    have := h0 j hj
    simp [this]
  rw [errW, this]; rfl
theorem errW_ok {x : Inst} {l : List Itm} (h : ∀ j, j < l.length → errAt x l j = 0) : errW x l = 0 := by
  have : ((List.range l.length).map (errAt x l)).find? (fun e => decide (e ≠ 0)) = none := by
    rw [List.find?_eq_none]
    intro e he
    obtain ⟨j, hj, rfl⟩ := List.mem_map.1 he
    have := h j (by simpa using hj)
    simp [this]
  rw [errW, this]; rfl
theorem errAt_zero {x l i} : errAt x l i = 0 ↔ hasI x (nth l i) = true ∧ nth l i ∉ l.take i := by
  unfold errAt
  split
  · split <;> simp_all
  · simp_all
theorem errW_zero {x : Inst} {l : List Itm} : errW x l = 0 ↔ ∀ j, j < l.length → errAt x l j = 0 := by
  refine ⟨fun h j hj => ?_, errW_ok⟩
  induction j using Nat.strongRecOn with
  | ind j ih =>
    by_cases h2 : errAt x l j = 0
    · exact h2
    · rw [errW_at hj (fun i hi => ih i hi (by omega)) h2] at h; exact h
theorem errW_iff {x : Inst} {l : List Itm} : errW x l = 0 ↔ (∀ v ∈ l, hasI x v = true) ∧ l.Nodup := by
  rw [errW_zero]
  constructor
  · intro h
    refine ⟨fun v hv => ?_, ?_⟩
    · obtain ⟨j, hj, rfl⟩ := List.mem_iff_getElem.1 hv
      have := (errAt_zero.1 (h j hj)).1
      rwa [nth_get hj] at this
    · rw [List.Nodup, List.pairwise_iff_getElem]
      intro i j hi hj hij e
      have := (errAt_zero.1 (h j hj)).2
      rw [nth_get hj, ← e] at this
      exact this (List.mem_iff_getElem.2 ⟨i, by simp; omega, by simp⟩)
  · rintro ⟨h1, h2⟩ j hj
    refine errAt_zero.2 ⟨h1 _ (nth_mem hj), fun hm => ?_⟩
    obtain ⟨i, hi, e⟩ := List.mem_iff_getElem.1 hm
    have hi2 : i < j := by simp at hi; omega
    rw [List.Nodup, List.pairwise_iff_getElem] at h2
    refine h2 i j (by omega) hj hi2 ?_
    rw [nth_get hj] at e
    rw [← e]; simp
def zeroI : Inst := ⟨⟨true, [], true, []⟩, true, [], true, [], true, [], true, []⟩
def resW (x : Inst) (l : List Itm) : Inst := if errW x l = 0 then withoutI x l else zeroI
end Go.Proofs.Ytlbhefiehkmhjaa.K
set_option linter.unusedVariables false
set_option linter.unusedSimpArgs false
namespace Go.Proofs.Ytlbhefiehkmhjaa.K
open Go Go.AM Go.Proofs
set_option maxRecDepth 8000
set_option maxHeartbeats 2000000
theorem flt_nil {n word sm l i} : flt n word sm l i = [] ↔ okP n (nth l i) = true ∧ (l.take i).any (sm (nth l i)) = false := by
  unfold flt; split <;> (try split) <;> simp_all
theorem fltU_nil {n word sm l} : fltU n word sm l l.length = [] ↔ l.length ≤ 16 ∧ (∀ p ∈ l, okP n p = true) ∧ l.Pairwise (fun p q => sm q p = false) := by
  rw [fltU, List.append_eq_nil_iff, List.flatMap_eq_nil_iff]
  refine and_congr (by unfold hdr; split <;> simp <;> omega) ?_
  simp only [List.mem_range, flt_nil]
  constructor
  · intro h
    refine ⟨fun p hp => ?_, ?_⟩
    · obtain ⟨i, hi, rfl⟩ := List.mem_iff_getElem.1 hp
      have := (h i hi).1
      rwa [nth_get hi] at this
    · rw [List.pairwise_iff_getElem]
      intro i j hi hj hij
      have := (h j hj).2
      rw [List.any_eq_false, nth_get hj] at this
      have h2 := this l[i] (List.mem_iff_getElem.2 ⟨i, by simp; omega, by simp⟩)
      simpa using h2
  · rintro ⟨h1, h2⟩ i hi
    refine ⟨h1 _ (nth_mem hi), ?_⟩
    rw [List.any_eq_false]
    intro p hp
    obtain ⟨j, hj, rfl⟩ := List.mem_iff_getElem.1 hp
    rw [List.pairwise_iff_getElem] at h2
    have hji : j < i := by simp at hj; omega
    have := h2 j i (by omega) hi hji
    rw [nth_get hi, List.getElem_take, this]; simp
theorem chk_nil {n : Int} {ap be : List (Int × Int)} : chk n ap be = [] ↔ (ap.length ≤ 16 ∧ (∀ p ∈ ap, okP n p = true) ∧ ap.Pairwise (fun p q => decide (q = p ∨ (q.1 = p.2 ∧ q.2 = p.1)) = false)) ∧ (be.length ≤ 16 ∧ (∀ p ∈ be, okP n p = true) ∧ be.Pairwise (fun p q => decide (q = p) = false)) := by
  rw [chk, List.append_eq_nil_iff, fltU_nil, fltU_nil]
theorem keepP_sub (l w kind) : ∀ k, k ≤ l.length → (keepP l w kind k).Sublist (l.take k)
  | 0, _ => by simp [keepP]
  | k + 1, h => by
    rw [keepP_succ, List.take_succ_eq_append_getElem (by omega)]
    refine (keepP_sub l w kind k (by omega)).append ?_
    split
    · simp
    · rw [nth_get (by omega)]; exact List.Sublist.refl _
theorem keepP_subl (l w kind) : (keepP l w kind l.length).Sublist l := by
  have := keepP_sub l w kind l.length (Nat.le_refl _)
  rwa [List.take_length] at this
theorem rng_iff {n lo hi : Int} : rng n lo hi = true ↔ lo ≤ n ∧ n ≤ hi := by simp [rng]
theorem capOk_iff {l : List Int} {d : Int} : capOk l d = true ↔ (1 ≤ l.length ∧ l.length ≤ 3) ∧ (l.length : Int) = d ∧ ∀ n ∈ l, 0 ≤ n ∧ n ≤ 1000 := by
  simp only [capOk, Bool.and_eq_true, decide_eq_true_eq, List.all_eq_true, rng_iff]
  constructor
  · rintro ⟨⟨h1, h2⟩, h3⟩; exact ⟨by omega, h2, h3⟩
  · rintro ⟨h1, h2, h3⟩; exact ⟨⟨by omega, h2⟩, h3⟩
theorem typL_cap_len (t a l) : (typL t a l).cap.length = t.cap.length := by simp only [typL]; split <;> simp
theorem typL_capOk {t a l d} (h : capOk t.cap d = true) : capOk (typL t a l).cap d = true := by
  rw [capOk_iff] at h ⊢
  rw [typL_cap_len]
  refine ⟨h.1, h.2.1, fun n hn => ?_⟩
  simp only [typL] at hn
  split at hn
  · rw [List.eq_of_mem_replicate hn]; omega
  · exact h.2.2 n hn
theorem dimsOf_typsL (ts l) : dimsOf (typsL ts l) = dimsOf ts := by
  unfold dimsOf
  rw [typsL_len]
  split
  · rfl
  · rw [typsL_nth (by omega), typL_cap_len]
theorem typOk_L {n : Net} {ts : List Typ} {l : List Itm} {i : Nat} (hi : i < ts.length) (h : typOk n ts i) : typOk n (typsL ts l) i := by
  unfold typOk at h ⊢
  rw [typsL_nth hi, dimsOf_typsL]
  obtain ⟨⟨⟨⟨⟨⟨⟨⟨h1, h2⟩, h3⟩, h4⟩, h5⟩, h6⟩, h7⟩, h8⟩, h9⟩ := h
  refine ⟨⟨⟨⟨⟨⟨⟨⟨h1, fun j hj => ?_⟩, ?_⟩, h4⟩, typL_capOk h5⟩, h6⟩, ?_⟩, ?_⟩, h9⟩
  · rw [typsL_nth (by omega)]; exact h2 j hj
  · simp only [typL]; split
    · rfl
    · exact h3
  · simp only [rng_iff, typL] at h7 ⊢
    split <;> omega
  · simp only [rng_iff, typL] at h8 ⊢
    split <;> omega
theorem stpOk_win {s : Stp} (h : stpOk s = true) (hp : 0 ≤ s.place) : stpOk { s with cls := 4096 } = true := by
  rw [stpOk_iff] at h ⊢
  simp only
  omega
theorem hasI_ord {x : Inst} {k a : Int} (hk : k = 1 ∨ k = 2 ∨ k = 4 ∨ k = 10) : hasI x ⟨k, a⟩ = true ↔ actB x a = true ∧ ordB (nth x.orders a.toNat) k = true := by
  simp only [hasI]; rw [if_pos hk, Bool.and_eq_true]
theorem OrdOk_L {np : Nat} {d ty : Int} {os : List Ord} {l : List Itm} {i : Nat} (hi : i < os.length) (h : OrdOk np d ty os i) (h1 : (⟨1, i⟩ : Itm) ∈ l → 0 ≤ (nth os i).pick.place) (h2 : (⟨2, i⟩ : Itm) ∈ l → 0 ≤ (nth os i).drp.place) : OrdOk np d ty (ordsL os l) i := by
  constructor
  · rw [ordsL_nth hi]; exact h.name
  · intro j hj; rw [ordsL_nth hi, ordsL_nth (by omega)]; exact h.twin j hj
  · rw [ordsL_nth hi]; exact h.load
  · rw [ordsL_nth hi]; exact h.pick
  · rw [ordsL_nth hi]; exact h.drp
  · rw [ordsL_nth hi]; exact h.one
  · rw [ordsL_nth hi]; simp only [ordL]; split
    · rename_i hm; exact stpOk_win h.pstp (h1 hm)
    · exact h.pstp
  · rw [ordsL_nth hi]; simp only [ordL]; split
    · rename_i hm; exact stpOk_win h.dstp (h2 hm)
    · exact h.dstp
  · rw [ordsL_nth hi]; have := h.skills; simp only [ordL]; split <;> omega
  · rw [ordsL_nth hi]
    have := h.arg
    simp only [argOk, Bool.and_eq_true, decide_eq_true_eq, rng_iff] at this ⊢
    refine ⟨⟨?_, this.1.2⟩, this.2⟩
    have := this.1.1
    simp only [ordL]
    split <;> omega
theorem without_ok {x : Inst} {l : List Itm} (h : InstOk x) (hI : ∀ v ∈ l, hasI x v = true) : InstOk (withoutI x l) := by
  have ht := h.types
  have ho := h.orders
  obtain ⟨⟨a1, a2, a3⟩, b1, b2, b3⟩ := chk_nil.1 h.rules
  refine ⟨h.net, ⟨?_, fun i hi => ?_⟩, ⟨?_, fun i hi => ?_⟩, ?_⟩
  · show rng (typsL x.types l).length 1 6 = true
    rw [typsL_len]; exact ht.1
  · have hi2 : i < x.types.length := by simpa [withoutI, typsL_len] using hi
    exact typOk_L hi2 (ht.2 i hi2)
  · show (ordsL x.orders l).length ≤ 10
    rw [ordsL_len]; exact ho.1
  · have hi2 : i < x.orders.length := by simpa [withoutI, ordsL_len] using hi
    show OrdOk x.net.places.length (dimsOf (typsL x.types l)) (typsL x.types l).length (ordsL x.orders l) i
    rw [dimsOf_typsL, typsL_len]
    refine OrdOk_L hi2 (ho.2 i hi2) (fun hm => ?_) (fun hm => ?_)
    · have := ((hasI_ord (by omega)).1 (hI _ hm)).2
      simpa [ordB] using this
    · have := ((hasI_ord (by omega)).1 (hI _ hm)).2
      simpa [ordB] using this
  · show chk ((ordsL x.orders l).length : Int) (keepP x.apart l 5 x.apart.length) (keepP x.before l 6 x.before.length) = []
    rw [ordsL_len, chk_nil]
    have sa := keepP_subl x.apart l 5
    have sb := keepP_subl x.before l 6
    have la := sa.length_le
    have lb := sb.length_le
    exact ⟨⟨by omega, fun p hp => a2 p (sa.subset hp), a3.sublist sa⟩, ⟨by omega, fun p hp => b2 p (sb.subset hp), b3.sublist sb⟩⟩
theorem inst_sz {x : Inst} (h : InstOk x) : ISz x := by
  have hf := instFacts h
  have ht := rng_iff.1 h.types.1
  obtain ⟨⟨a1, _, _⟩, b1, _, _⟩ := chk_nil.1 h.rules
  have := h.orders.1
  exact ⟨hf.plc, by omega, by omega, by omega, by omega, by omega⟩
theorem inst_cap {x : Inst} (h : InstOk x) : ∀ t ∈ x.types, t.cap.length ≤ 1048576 := fun t hm => by
  obtain ⟨i, hi, rfl⟩ := List.mem_iff_getElem.1 hm
  have := h.types.2 i hi
  have h5 := (capOk_iff.1 this.1.1.1.1.2).1
  rw [nth_get hi] at h5
  omega
theorem typL_wf {B : Nat} {t a l} (h : t.wf B) : (typL t a l).wf B := by
  obtain ⟨h1, h2, h3, h4, h5, h6, h7, h8, h9, h10, h11, h12, h13, h14, h15⟩ := h
  refine ⟨h1, ?_, h3, h4, ?_, ?_, h7, h8, h9, ?_, ?_, h12, h13, h14, h15⟩
  · simp only [typL]; split <;> omega
  · rw [typL_cap_len]; exact h5
  · intro n hn
    simp only [typL] at hn
    split at hn
    · rw [List.eq_of_mem_replicate hn]; omega
    · exact h6 n hn
  · simp only [typL]; split <;> omega
  · simp only [typL]; split <;> omega
theorem ordL_wf {B : Nat} {o a l} (h : o.wf B) : (ordL o a l).wf B := by
  obtain ⟨h1, h2, h3, ⟨p1, p2, p3, p4⟩, ⟨d1, d2, d3, d4⟩, h6, h7, h8, h9, h10⟩ := h
  refine ⟨h1, h2, h3, ⟨p1, p2, ?_, p4⟩, ⟨d1, d2, ?_, d4⟩, ?_, ?_, h8, h9, h10⟩
  · simp only [ordL]; split <;> omega
  · simp only [ordL]; split <;> omega
  · simp only [ordL]; split <;> omega
  · simp only [ordL]; split <;> omega
theorem without_wf {B : Nat} {x : Inst} {l : List Itm} (h : x.wf B) : (withoutI x l).wf B := by
  obtain ⟨h1, h2, h3, h4, h5, h6, h7, h8, h9⟩ := h
  refine ⟨h1, ?_, ?_, ?_, ?_, ?_, ?_, ?_, ?_⟩
  · show (typsL x.types l).length ≤ B
    rw [typsL_len]; exact h2
  · intro t ht
    obtain ⟨i, hi, rfl⟩ := List.mem_map.1 (show t ∈ typsL x.types l from ht)
    exact typL_wf (h3 _ (nth_mem (by simpa using hi)))
  · show (ordsL x.orders l).length ≤ B
    rw [ordsL_len]; exact h4
  · intro t ht
    obtain ⟨i, hi, rfl⟩ := List.mem_map.1 (show t ∈ ordsL x.orders l from ht)
    exact ordL_wf (h5 _ (nth_mem (by simpa using hi)))
  · exact Nat.le_trans (keepP_subl x.apart l 5).length_le h6
  · exact fun p hp => h7 p ((keepP_subl x.apart l 5).subset hp)
  · exact Nat.le_trans (keepP_subl x.before l 6).length_le h8
  · exact fun p hp => h9 p ((keepP_subl x.before l 6).subset hp)
end Go.Proofs.Ytlbhefiehkmhjaa.K
set_option linter.unusedVariables false
set_option linter.unusedSimpArgs false
namespace Go.Proofs.Ytlbhefiehkmhjaa.K
open Go Go.AM Go.Proofs
set_option maxRecDepth 8000
set_option maxHeartbeats 8000000
theorem without_c (x : Inst) (hs : ISz x) (hcap : ∀ t ∈ x.types, t.cap.length ≤ 1048576) (l : List Itm) (c : Bool) (hl : l.length ≤ 1048576) : ACalls Try.prog 37 [.p (eInst x), .p (.list c (l.map eItm))] [] fun y H' => y = .tup [.p (eInst (resW x l)), .p (.int .i64 (errW x l))] ∧ H' = [] := by
  have s1 := hs.ord
  have s2 := hs.typ
  have s3 := hs.ap
  have s4 := hs.be
  have hrl := refI_len hs
  refine acalls_weak [27] (fn := Try.f37) Try.func37 rfl isF37 ?_
  simp (disch := omega) only [Try.f37, go_sem, Nat.reduceAdd, Nat.reduceMul, Nat.reduceSub, Nat.reduceLeDiff, Nat.reduceLT, Nat.reduceEqDiff, Nat.reduceBEq, Nat.reduceBNe, Int.reduceNeg, Int.reduceToNat, Int.reduceLT, Int.reduceLE, Int.reduceEq, Int.reduceAdd, Int.reduceMul, Int.reduceSub, Nat.reduceSucc, Nat.reduceGT, Nat.reducePow, Int.reducePow, reduceCtorEq, ↓reduceIte]
  refine (itemsC x hs).use ?_
  simp (disch := omega) only [go_sem, Nat.reduceAdd, Nat.reduceMul, Nat.reduceSub, Nat.reduceLeDiff, Nat.reduceLT, Nat.reduceEqDiff, Nat.reduceBEq, Nat.reduceBNe, Int.reduceNeg, Int.reduceToNat, Int.reduceLT, Int.reduceLE, Int.reduceEq, Int.reduceAdd, Int.reduceMul, Int.reduceSub, Nat.reduceSucc, Nat.reduceGT, Nat.reducePow, Int.reducePow, reduceCtorEq, ↓reduceIte]
  have zI : eInst zeroI = .agg [.list true [], .list true [], .list true [], .list true [], .list true [], .list true []] := rfl
  refine awp_forC [10] [1, 2, 4, 6, 13, 14] (fun k : Nat => [(15, .p (.int .i64 k))]) (fun _ => [instO x, instO zeroI]) (fun k => k ≤ l.length ∧ ∀ j, j < k → errAt x l j = 0) (fun k => l.length - k) 0 (by simp) (Weak.mk ?_) ?_
  · simp (disch := omega) only [instO, zeroI, List.map_nil, go_sem, Nat.reduceAdd, Nat.reduceMul, Nat.reduceSub, Nat.reduceLeDiff, Nat.reduceLT, Nat.reduceEqDiff, Nat.reduceBEq, Nat.reduceBNe, Int.reduceNeg, Int.reduceToNat, Int.reduceLT, Int.reduceLE, Int.reduceEq, Int.reduceAdd, Int.reduceMul, Int.reduceSub, Nat.reduceSucc, Nat.reduceGT, Nat.reducePow, Int.reducePow, reduceCtorEq, ↓reduceIte]
  · rintro k ⟨hk, hno⟩
    simp (disch := omega) only [instO, zeroI, List.map_nil, go_sem, Nat.reduceAdd, Nat.reduceMul, Nat.reduceSub, Nat.reduceLeDiff, Nat.reduceLT, Nat.reduceEqDiff, Nat.reduceBEq, Nat.reduceBNe, Int.reduceNeg, Int.reduceToNat, Int.reduceLT, Int.reduceLE, Int.reduceEq, Int.reduceAdd, Int.reduceMul, Int.reduceSub, Nat.reduceSucc, Nat.reduceGT, Nat.reducePow, Int.reducePow, reduceCtorEq, ↓reduceIte]
    refine acond_b (fun h => ?_) (fun h => ?_) <;> (try simp only [decide_eq_true_eq, decide_eq_false_iff_not] at h) <;> simp (disch := omega) only [Sh.out h, go_sem, Nat.reduceAdd, Nat.reduceMul, Nat.reduceSub, Nat.reduceLeDiff, Nat.reduceLT, Nat.reduceEqDiff, Nat.reduceBEq, Nat.reduceBNe, Int.reduceNeg, Int.reduceToNat, Int.reduceLT, Int.reduceLE, Int.reduceEq, Int.reduceAdd, Int.reduceMul, Int.reduceSub, Nat.reduceSucc, Nat.reduceGT, Nat.reducePow, Int.reducePow, reduceCtorEq, ↓reduceIte]
    · have hk2 : k < l.length := by omega
      refine (contains49_c (refI x 10) false (nth l k) hrl).use ?_
      simp (disch := omega) only [go_sem, Nat.reduceAdd, Nat.reduceMul, Nat.reduceSub, Nat.reduceLeDiff, Nat.reduceLT, Nat.reduceEqDiff, Nat.reduceBEq, Nat.reduceBNe, Int.reduceNeg, Int.reduceToNat, Int.reduceLT, Int.reduceLE, Int.reduceEq, Int.reduceAdd, Int.reduceMul, Int.reduceSub, Nat.reduceSucc, Nat.reduceGT, Nat.reducePow, Int.reducePow, reduceCtorEq, ↓reduceIte]
      refine acond_b (fun h2 => ?_) (fun h2 => ?_) <;> (try simp only [decide_eq_true_eq, decide_eq_false_iff_not] at h2) <;> simp (disch := omega) only [Sh.out h2, zI, go_sem, Nat.reduceAdd, Nat.reduceMul, Nat.reduceSub, Nat.reduceLeDiff, Nat.reduceLT, Nat.reduceEqDiff, Nat.reduceBEq, Nat.reduceBNe, Int.reduceNeg, Int.reduceToNat, Int.reduceLT, Int.reduceLE, Int.reduceEq, Int.reduceAdd, Int.reduceMul, Int.reduceSub, Nat.reduceSucc, Nat.reduceGT, Nat.reducePow, Int.reducePow, reduceCtorEq, ↓reduceIte]
      · have h3 : hasI x (nth l k) = false := by rw [mem_refI] at h2; simpa using h2
        have e0 : errAt x l k = 7 := by rw [errAt, h3]; rfl
        have e : errW x l = 7 := by rw [errW_at hk2 hno (by rw [e0]; decide), e0]
        have r : resW x l = zeroI := by rw [resW, e]; rfl
        simp only [e, r, zeroI, List.map_nil]
        exact ⟨_, _, Weak.mk (by simp (disch := omega) only [go_sem, Nat.reduceAdd, Nat.reduceMul, Nat.reduceSub, Nat.reduceLeDiff, Nat.reduceLT, Nat.reduceEqDiff, Nat.reduceBEq, Nat.reduceBNe, Int.reduceNeg, Int.reduceToNat, Int.reduceLT, Int.reduceLE, Int.reduceEq, Int.reduceAdd, Int.reduceMul, Int.reduceSub, Nat.reduceSucc, Nat.reduceGT, Nat.reducePow, Int.reducePow, reduceCtorEq, ↓reduceIte]), rfl, rfl⟩
      · have h3 : hasI x (nth l k) = true := by rw [Classical.not_not, mem_refI] at h2; exact h2
        refine awp_drawnA mixed (by kernel_rfl) (by kernel_rfl) ?_
        simp (disch := omega) only [go_sem, Nat.reduceAdd, Nat.reduceMul, Nat.reduceSub, Nat.reduceLeDiff, Nat.reduceLT, Nat.reduceEqDiff, Nat.reduceBEq, Nat.reduceBNe, Int.reduceNeg, Int.reduceToNat, Int.reduceLT, Int.reduceLE, Int.reduceEq, Int.reduceAdd, Int.reduceMul, Int.reduceSub, Nat.reduceSucc, Nat.reduceGT, Nat.reducePow, Int.reducePow, reduceCtorEq, ↓reduceIte]
        refine exq_call (contains49_c (l.take k) _ (nth l k) (by simp; omega)) ?_
        simp (disch := omega) only [go_sem, Nat.reduceAdd, Nat.reduceMul, Nat.reduceSub, Nat.reduceLeDiff, Nat.reduceLT, Nat.reduceEqDiff, Nat.reduceBEq, Nat.reduceBNe, Int.reduceNeg, Int.reduceToNat, Int.reduceLT, Int.reduceLE, Int.reduceEq, Int.reduceAdd, Int.reduceMul, Int.reduceSub, Nat.reduceSucc, Nat.reduceGT, Nat.reducePow, Int.reducePow, reduceCtorEq, ↓reduceIte]
        refine acond_b (fun h4 => ?_) (fun h4 => ?_) <;> (try simp only [decide_eq_true_eq, decide_eq_false_iff_not] at h4) <;> simp (disch := omega) only [Sh.out h4, go_sem, Nat.reduceAdd, Nat.reduceMul, Nat.reduceSub, Nat.reduceLeDiff, Nat.reduceLT, Nat.reduceEqDiff, Nat.reduceBEq, Nat.reduceBNe, Int.reduceNeg, Int.reduceToNat, Int.reduceLT, Int.reduceLE, Int.reduceEq, Int.reduceAdd, Int.reduceMul, Int.reduceSub, Nat.reduceSucc, Nat.reduceGT, Nat.reducePow, Int.reducePow, reduceCtorEq, ↓reduceIte]
        · have e0 : errAt x l k = 6 := by rw [errAt, if_pos h3, if_pos h4]
          have e : errW x l = 6 := by rw [errW_at hk2 hno (by rw [e0]; decide), e0]
          have r : resW x l = zeroI := by rw [resW, e]; rfl
          simp only [e, r, zeroI, List.map_nil]
          exact ⟨_, _, Weak.mk (by simp (disch := omega) only [go_sem, Nat.reduceAdd, Nat.reduceMul, Nat.reduceSub, Nat.reduceLeDiff, Nat.reduceLT, Nat.reduceEqDiff, Nat.reduceBEq, Nat.reduceBNe, Int.reduceNeg, Int.reduceToNat, Int.reduceLT, Int.reduceLE, Int.reduceEq, Int.reduceAdd, Int.reduceMul, Int.reduceSub, Nat.reduceSucc, Nat.reduceGT, Nat.reducePow, Int.reducePow, reduceCtorEq, ↓reduceIte]), rfl, rfl⟩
        · exact ⟨k + 1, ⟨by omega, upto_iff.2 ⟨hno, errAt_zero.2 ⟨h3, h4⟩⟩⟩, by omega, Weak.mk (by simp (disch := omega) only [instO, zeroI, List.map_nil, go_sem, Nat.reduceAdd, Nat.reduceMul, Nat.reduceSub, Nat.reduceLeDiff, Nat.reduceLT, Nat.reduceEqDiff, Nat.reduceBEq, Nat.reduceBNe, Int.reduceNeg, Int.reduceToNat, Int.reduceLT, Int.reduceLE, Int.reduceEq, Int.reduceAdd, Int.reduceMul, Int.reduceSub, Nat.reduceSucc, Nat.reduceGT, Nat.reducePow, Int.reducePow, reduceCtorEq, ↓reduceIte])⟩
    · have hkl : k = l.length := by omega
      subst hkl
      have e : errW x l = 0 := errW_ok hno
      have r : resW x l = withoutI x l := by rw [resW, if_pos e]
      rw [e, r]
      clear hk h
      refine awp_joinR [1, 2, 4] (fun _ : Unit => []) (fun _ => [.cells [.p (.list x.net.places_c (x.net.places.map eS)), .p (.list x.net.arcs_c (x.net.arcs.map eArc)), .sl 2 0 x.types.length x.types.length, .sl 3 0 x.orders.length x.orders.length, .p (.list x.apart_c (x.apart.map eP)), .p (.list x.before_c (x.before.map eP))], instO zeroI, .elems 14 (x.types.map eTyp), .elems 16 (x.orders.map eOrd)]) (fun _ => True) ?_ ?_
      · refine awp_tree (.cons 0 (.cons 1 (.cons 2 (.cons 3 (.cons 4 (.cons 5 (.cons 6 (.cons 7 (.cons 8 (.cons 9 .nil .nil) .nil) .nil) .nil) (.cons 6 (.cons 5 (.cons 7 (.cons 8 (.cons 9 .nil .nil) .nil) .nil) .nil) .nil)) .nil) .nil) (.cons 3 (.cons 2 (.cons 4 (.cons 5 (.cons 6 (.cons 7 (.cons 8 (.cons 9 .nil .nil) .nil) .nil) .nil) (.cons 6 (.cons 5 (.cons 7 (.cons 8 (.cons 9 .nil .nil) .nil) .nil) .nil) .nil)) .nil) (.cons 4 (.cons 2 (.cons 5 (.cons 6 (.cons 7 (.cons 8 (.cons 9 .nil .nil) .nil) .nil) .nil) (.cons 6 (.cons 5 (.cons 7 (.cons 8 (.cons 9 .nil .nil) .nil) .nil) .nil) .nil)) .nil) .nil)) .nil)) (.cons 3 (.cons 1 (.cons 2 (.cons 4 (.cons 5 (.cons 6 (.cons 7 (.cons 8 (.cons 9 .nil .nil) .nil) .nil) .nil) (.cons 6 (.cons 5 (.cons 7 (.cons 8 (.cons 9 .nil .nil) .nil) .nil) .nil) .nil)) .nil) (.cons 4 (.cons 2 (.cons 5 (.cons 6 (.cons 7 (.cons 8 (.cons 9 .nil .nil) .nil) .nil) .nil) (.cons 6 (.cons 5 (.cons 7 (.cons 8 (.cons 9 .nil .nil) .nil) .nil) .nil) .nil)) .nil) .nil)) (.cons 4 (.cons 1 (.cons 2 (.cons 5 (.cons 6 (.cons 7 (.cons 8 (.cons 9 .nil .nil) .nil) .nil) .nil) (.cons 6 (.cons 5 (.cons 7 (.cons 8 (.cons 9 .nil .nil) .nil) .nil) .nil) .nil)) .nil) .nil) .nil)) .nil)) (.cons 3 (.cons 0 (.cons 1 (.cons 2 (.cons 4 (.cons 5 (.cons 6 (.cons 7 (.cons 8 (.cons 9 .nil .nil) .nil) .nil) .nil) (.cons 6 (.cons 5 (.cons 7 (.cons 8 (.cons 9 .nil .nil) .nil) .nil) .nil) .nil)) .nil) (.cons 4 (.cons 2 (.cons 5 (.cons 6 (.cons 7 (.cons 8 (.cons 9 .nil .nil) .nil) .nil) .nil) (.cons 6 (.cons 5 (.cons 7 (.cons 8 (.cons 9 .nil .nil) .nil) .nil) .nil) .nil)) .nil) .nil)) (.cons 4 (.cons 1 (.cons 2 (.cons 5 (.cons 6 (.cons 7 (.cons 8 (.cons 9 .nil .nil) .nil) .nil) .nil) (.cons 6 (.cons 5 (.cons 7 (.cons 8 (.cons 9 .nil .nil) .nil) .nil) .nil) .nil)) .nil) .nil) .nil)) (.cons 4 (.cons 0 (.cons 1 (.cons 2 (.cons 5 (.cons 6 (.cons 7 (.cons 8 (.cons 9 .nil .nil) .nil) .nil) .nil) (.cons 6 (.cons 5 (.cons 7 (.cons 8 (.cons 9 .nil .nil) .nil) .nil) .nil) .nil)) .nil) .nil) .nil) .nil)) .nil)) mixed (by kernel_rfl) ?_
        have cT : ACalls Try.prog 74 [.p (.list x.types_c (x.types.map eTyp))] [] fun y H' => y = .sl 0 0 x.types.length x.types.length ∧ H' = [.elems 14 (x.types.map eTyp)] := cloneTyps_own x.types x.types_c (by omega)
        have cO : ACalls Try.prog 75 [.p (.list x.orders_c (x.orders.map eOrd))] [] fun y H' => y = .sl 0 0 x.orders.length x.orders.length ∧ H' = [.elems 16 (x.orders.map eOrd)] := cloneOrds_own x.orders x.orders_c (by omega)
        repeat' first
          | refine akids_two ?_ ?_
          | (refine cT.useF ?_; simp (disch := omega) only [go_sem, Nat.reduceAdd, Nat.reduceMul, Nat.reduceSub, Nat.reduceLeDiff, Nat.reduceLT, Nat.reduceEqDiff, Nat.reduceBEq, Nat.reduceBNe, Int.reduceNeg, Int.reduceToNat, Int.reduceLT, Int.reduceLE, Int.reduceEq, Int.reduceAdd, Int.reduceMul, Int.reduceSub, Nat.reduceSucc, Nat.reduceGT, Nat.reducePow, Int.reducePow, reduceCtorEq, ↓reduceIte])
          | (refine cO.useF ?_; simp (disch := omega) only [go_sem, Nat.reduceAdd, Nat.reduceMul, Nat.reduceSub, Nat.reduceLeDiff, Nat.reduceLT, Nat.reduceEqDiff, Nat.reduceBEq, Nat.reduceBNe, Int.reduceNeg, Int.reduceToNat, Int.reduceLT, Int.reduceLE, Int.reduceEq, Int.reduceAdd, Int.reduceMul, Int.reduceSub, Nat.reduceSucc, Nat.reduceGT, Nat.reducePow, Int.reducePow, reduceCtorEq, ↓reduceIte])
          | exact ⟨(), Weak.mk (by simp (disch := omega) only [instO, zeroI, List.map_nil, go_sem, Nat.reduceAdd, Nat.reduceMul, Nat.reduceSub, Nat.reduceLeDiff, Nat.reduceLT, Nat.reduceEqDiff, Nat.reduceBEq, Nat.reduceBNe, Int.reduceNeg, Int.reduceToNat, Int.reduceLT, Int.reduceLE, Int.reduceEq, Int.reduceAdd, Int.reduceMul, Int.reduceSub, Nat.reduceSucc, Nat.reduceGT, Nat.reducePow, Int.reducePow, reduceCtorEq, ↓reduceIte])⟩
          | simp (disch := omega) only [go_sem, Nat.reduceAdd, Nat.reduceMul, Nat.reduceSub, Nat.reduceLeDiff, Nat.reduceLT, Nat.reduceEqDiff, Nat.reduceBEq, Nat.reduceBNe, Int.reduceNeg, Int.reduceToNat, Int.reduceLT, Int.reduceLE, Int.reduceEq, Int.reduceAdd, Int.reduceMul, Int.reduceSub, Nat.reduceSucc, Nat.reduceGT, Nat.reducePow, Int.reducePow, reduceCtorEq, ↓reduceIte]
      · rintro _ _
        simp (disch := omega) only [instO, zeroI, List.map_nil, go_sem, Nat.reduceAdd, Nat.reduceMul, Nat.reduceSub, Nat.reduceLeDiff, Nat.reduceLT, Nat.reduceEqDiff, Nat.reduceBEq, Nat.reduceBNe, Int.reduceNeg, Int.reduceToNat, Int.reduceLT, Int.reduceLE, Int.reduceEq, Int.reduceAdd, Int.reduceMul, Int.reduceSub, Nat.reduceSucc, Nat.reduceGT, Nat.reducePow, Int.reducePow, reduceCtorEq, ↓reduceIte]
        have lT := typsL_len x.types
        have lO := ordsL_len x.orders
        have hcap2 : ∀ k i, i < x.types.length → (nth (typsL x.types (l.take k)) i).cap.length ≤ 1048576 := fun k i hi => by
          rw [typsL_nth hi]
          have := hcap _ (nth_mem hi)
          simp only [typL]
          split <;> simp [this]
        refine awp_forC [26, 27] [1, 2, 4, 42, 43] (fun k : Nat => [(44, .p (.int .i64 k))]) (fun k => [.cells [.p (.list x.net.places_c (x.net.places.map eS)), .p (.list x.net.arcs_c (x.net.arcs.map eArc)), .sl 2 0 x.types.length x.types.length, .sl 3 0 x.orders.length x.orders.length, .p (.list x.apart_c (x.apart.map eP)), .p (.list x.before_c (x.before.map eP))], instO zeroI, .elems 14 ((typsL x.types (l.take k)).map eTyp), .elems 16 ((ordsL x.orders (l.take k)).map eOrd)]) (fun k => k ≤ l.length) (fun k => l.length - k) 0 (by simp) (Weak.mk ?_) ?_
        · simp (disch := omega) only [instO, zeroI, List.map_nil, List.take_zero, typsL_nil, ordsL_nil, go_sem, Nat.reduceAdd, Nat.reduceMul, Nat.reduceSub, Nat.reduceLeDiff, Nat.reduceLT, Nat.reduceEqDiff, Nat.reduceBEq, Nat.reduceBNe, Int.reduceNeg, Int.reduceToNat, Int.reduceLT, Int.reduceLE, Int.reduceEq, Int.reduceAdd, Int.reduceMul, Int.reduceSub, Nat.reduceSucc, Nat.reduceGT, Nat.reducePow, Int.reducePow, reduceCtorEq, ↓reduceIte]
        · rintro k hk
          simp (disch := omega) only [instO, zeroI, List.map_nil, go_sem, Nat.reduceAdd, Nat.reduceMul, Nat.reduceSub, Nat.reduceLeDiff, Nat.reduceLT, Nat.reduceEqDiff, Nat.reduceBEq, Nat.reduceBNe, Int.reduceNeg, Int.reduceToNat, Int.reduceLT, Int.reduceLE, Int.reduceEq, Int.reduceAdd, Int.reduceMul, Int.reduceSub, Nat.reduceSucc, Nat.reduceGT, Nat.reducePow, Int.reducePow, reduceCtorEq, ↓reduceIte]
          have hhas : k < l.length → hasI x (nth l k) = true := fun h => (errAt_zero.1 (hno k h)).1
          have hsn : k < l.length → l.take (k + 1) = l.take k ++ [nth l k] := fun h => by rw [List.take_succ_eq_append_getElem h, nth_get h]
          refine acond_b (fun h => ?_) (fun h => ?_) <;> (try simp only [decide_eq_true_eq, decide_eq_false_iff_not] at h) <;> simp (disch := omega) only [Sh.out h, go_sem, Nat.reduceAdd, Nat.reduceMul, Nat.reduceSub, Nat.reduceLeDiff, Nat.reduceLT, Nat.reduceEqDiff, Nat.reduceBEq, Nat.reduceBNe, Int.reduceNeg, Int.reduceToNat, Int.reduceLT, Int.reduceLE, Int.reduceEq, Int.reduceAdd, Int.reduceMul, Int.reduceSub, Nat.reduceSucc, Nat.reduceGT, Nat.reducePow, Int.reducePow, reduceCtorEq, ↓reduceIte]
          · have hk2 : k < l.length := by omega
            have hhas := hhas hk2
            have hsn := hsn hk2
            have hgo : ∀ kd a, nth l k = ⟨kd, a⟩ → (kd = 1 ∨ kd = 2 ∨ kd = 4 ∨ kd = 10) ∧ (0 ≤ a ∧ a < (x.orders.length : Int)) ∨ (kd = 3 ∨ kd = 7 ∨ kd = 8 ∨ kd = 9) ∧ (0 ≤ a ∧ a < (x.types.length : Int)) ∨ kd = 5 ∨ kd = 6 := fun kd a e => by
              rw [e] at hhas
              unfold hasI at hhas
              simp only at hhas
              split at hhas
              · rename_i hq; simp only [actB, Bool.and_eq_true, decide_eq_true_eq] at hhas; exact .inl ⟨hq, by omega⟩
              · split at hhas
                · rename_i hq; simp only [Bool.and_eq_true, decide_eq_true_eq] at hhas; exact .inr (.inl ⟨hq, by omega⟩)
                · split at hhas
                  · rename_i hq; exact .inr (.inr (.inl hq))
                  · split at hhas
                    · rename_i hq; exact .inr (.inr (.inr hq))
                    · simp at hhas
            generalize hv : nth l k = v at hgo hsn ⊢
            obtain ⟨kd, a⟩ := v
            rcases hgo kd a rfl with ⟨hkd, ha⟩ | ⟨hkd, ha⟩ | hkd
            · rcases hkd with rfl | rfl | rfl | rfl
              · have hmO : ((ordsL x.orders (l.take k)).map eOrd).length = x.orders.length := by rw [List.length_map, lO]
                have c9 := order49_c (ordsL x.orders (l.take k)) a.toNat 1 (by rw [lO]; omega)
                rw [ordsL_set (by omega) (v := ⟨1, a⟩) (by simp only; omega), ← hsn, lO, ← hmO] at c9
                have eT : typsL x.types (l.take (k + 1)) = typsL x.types (l.take k) := by rw [hsn]; exact typsL_other (by simp)
                simp (disch := omega) only [instO, zeroI, List.map_nil, go_sem, Nat.reduceAdd, Nat.reduceMul, Nat.reduceSub, Nat.reduceLeDiff, Nat.reduceLT, Nat.reduceEqDiff, Nat.reduceBEq, Nat.reduceBNe, Int.reduceNeg, Int.reduceToNat, Int.reduceLT, Int.reduceLE, Int.reduceEq, Int.reduceAdd, Int.reduceMul, Int.reduceSub, Nat.reduceSucc, Nat.reduceGT, Nat.reducePow, Int.reducePow, reduceCtorEq, ↓reduceIte]
                refine awp_drawnS 7 mixed (by kernel_rfl) (by kernel_rfl) ?_
                simp (disch := omega) only [go_sem, Nat.reduceAdd, Nat.reduceMul, Nat.reduceSub, Nat.reduceLeDiff, Nat.reduceLT, Nat.reduceEqDiff, Nat.reduceBEq, Nat.reduceBNe, Int.reduceNeg, Int.reduceToNat, Int.reduceLT, Int.reduceLE, Int.reduceEq, Int.reduceAdd, Int.reduceMul, Int.reduceSub, Nat.reduceSucc, Nat.reduceGT, Nat.reducePow, Int.reducePow, reduceCtorEq, ↓reduceIte]
                rw [← hmO]
                refine (ACalls.atE (ps := [.int .i64 1]) (o := 3) rfl c9 (by simp [lO])).useH ?_
                simp (disch := omega) only [List.set_cons_succ, List.set_cons_zero, go_sem, Nat.reduceAdd, Nat.reduceMul, Nat.reduceSub, Nat.reduceLeDiff, Nat.reduceLT, Nat.reduceEqDiff, Nat.reduceBEq, Nat.reduceBNe, Int.reduceNeg, Int.reduceToNat, Int.reduceLT, Int.reduceLE, Int.reduceEq, Int.reduceAdd, Int.reduceMul, Int.reduceSub, Nat.reduceSucc, Nat.reduceGT, Nat.reducePow, Int.reducePow, reduceCtorEq, ↓reduceIte]
                refine ⟨k + 1, by omega, by omega, Weak.mk ?_⟩
                try simp only [List.length_map, lO]
                simp (disch := omega) only [instO, zeroI, List.map_nil, eT, go_sem, Nat.reduceAdd, Nat.reduceMul, Nat.reduceSub, Nat.reduceLeDiff, Nat.reduceLT, Nat.reduceEqDiff, Nat.reduceBEq, Nat.reduceBNe, Int.reduceNeg, Int.reduceToNat, Int.reduceLT, Int.reduceLE, Int.reduceEq, Int.reduceAdd, Int.reduceMul, Int.reduceSub, Nat.reduceSucc, Nat.reduceGT, Nat.reducePow, Int.reducePow, reduceCtorEq, ↓reduceIte]
              · have hmO : ((ordsL x.orders (l.take k)).map eOrd).length = x.orders.length := by rw [List.length_map, lO]
                have c9 := order49_c (ordsL x.orders (l.take k)) a.toNat 2 (by rw [lO]; omega)
                rw [ordsL_set (by omega) (v := ⟨2, a⟩) (by simp only; omega), ← hsn, lO, ← hmO] at c9
                have eT : typsL x.types (l.take (k + 1)) = typsL x.types (l.take k) := by rw [hsn]; exact typsL_other (by simp)
                simp (disch := omega) only [instO, zeroI, List.map_nil, go_sem, Nat.reduceAdd, Nat.reduceMul, Nat.reduceSub, Nat.reduceLeDiff, Nat.reduceLT, Nat.reduceEqDiff, Nat.reduceBEq, Nat.reduceBNe, Int.reduceNeg, Int.reduceToNat, Int.reduceLT, Int.reduceLE, Int.reduceEq, Int.reduceAdd, Int.reduceMul, Int.reduceSub, Nat.reduceSucc, Nat.reduceGT, Nat.reducePow, Int.reducePow, reduceCtorEq, ↓reduceIte]
                refine awp_drawnS 7 mixed (by kernel_rfl) (by kernel_rfl) ?_
                simp (disch := omega) only [go_sem, Nat.reduceAdd, Nat.reduceMul, Nat.reduceSub, Nat.reduceLeDiff, Nat.reduceLT, Nat.reduceEqDiff, Nat.reduceBEq, Nat.reduceBNe, Int.reduceNeg, Int.reduceToNat, Int.reduceLT, Int.reduceLE, Int.reduceEq, Int.reduceAdd, Int.reduceMul, Int.reduceSub, Nat.reduceSucc, Nat.reduceGT, Nat.reducePow, Int.reducePow, reduceCtorEq, ↓reduceIte]
                rw [← hmO]
                refine (ACalls.atE (ps := [.int .i64 2]) (o := 3) rfl c9 (by simp [lO])).useH ?_
                simp (disch := omega) only [List.set_cons_succ, List.set_cons_zero, go_sem, Nat.reduceAdd, Nat.reduceMul, Nat.reduceSub, Nat.reduceLeDiff, Nat.reduceLT, Nat.reduceEqDiff, Nat.reduceBEq, Nat.reduceBNe, Int.reduceNeg, Int.reduceToNat, Int.reduceLT, Int.reduceLE, Int.reduceEq, Int.reduceAdd, Int.reduceMul, Int.reduceSub, Nat.reduceSucc, Nat.reduceGT, Nat.reducePow, Int.reducePow, reduceCtorEq, ↓reduceIte]
                refine ⟨k + 1, by omega, by omega, Weak.mk ?_⟩
                try simp only [List.length_map, lO]
                simp (disch := omega) only [instO, zeroI, List.map_nil, eT, go_sem, Nat.reduceAdd, Nat.reduceMul, Nat.reduceSub, Nat.reduceLeDiff, Nat.reduceLT, Nat.reduceEqDiff, Nat.reduceBEq, Nat.reduceBNe, Int.reduceNeg, Int.reduceToNat, Int.reduceLT, Int.reduceLE, Int.reduceEq, Int.reduceAdd, Int.reduceMul, Int.reduceSub, Nat.reduceSucc, Nat.reduceGT, Nat.reducePow, Int.reducePow, reduceCtorEq, ↓reduceIte]
              · have hmO : ((ordsL x.orders (l.take k)).map eOrd).length = x.orders.length := by rw [List.length_map, lO]
                have c9 := order49_c (ordsL x.orders (l.take k)) a.toNat 4 (by rw [lO]; omega)
                rw [ordsL_set (by omega) (v := ⟨4, a⟩) (by simp only; omega), ← hsn, lO, ← hmO] at c9
                have eT : typsL x.types (l.take (k + 1)) = typsL x.types (l.take k) := by rw [hsn]; exact typsL_other (by simp)
                simp (disch := omega) only [instO, zeroI, List.map_nil, go_sem, Nat.reduceAdd, Nat.reduceMul, Nat.reduceSub, Nat.reduceLeDiff, Nat.reduceLT, Nat.reduceEqDiff, Nat.reduceBEq, Nat.reduceBNe, Int.reduceNeg, Int.reduceToNat, Int.reduceLT, Int.reduceLE, Int.reduceEq, Int.reduceAdd, Int.reduceMul, Int.reduceSub, Nat.reduceSucc, Nat.reduceGT, Nat.reducePow, Int.reducePow, reduceCtorEq, ↓reduceIte]
                refine awp_drawnS 7 mixed (by kernel_rfl) (by kernel_rfl) ?_
                simp (disch := omega) only [go_sem, Nat.reduceAdd, Nat.reduceMul, Nat.reduceSub, Nat.reduceLeDiff, Nat.reduceLT, Nat.reduceEqDiff, Nat.reduceBEq, Nat.reduceBNe, Int.reduceNeg, Int.reduceToNat, Int.reduceLT, Int.reduceLE, Int.reduceEq, Int.reduceAdd, Int.reduceMul, Int.reduceSub, Nat.reduceSucc, Nat.reduceGT, Nat.reducePow, Int.reducePow, reduceCtorEq, ↓reduceIte]
                rw [← hmO]
                refine (ACalls.atE (ps := [.int .i64 4]) (o := 3) rfl c9 (by simp [lO])).useH ?_
                simp (disch := omega) only [List.set_cons_succ, List.set_cons_zero, go_sem, Nat.reduceAdd, Nat.reduceMul, Nat.reduceSub, Nat.reduceLeDiff, Nat.reduceLT, Nat.reduceEqDiff, Nat.reduceBEq, Nat.reduceBNe, Int.reduceNeg, Int.reduceToNat, Int.reduceLT, Int.reduceLE, Int.reduceEq, Int.reduceAdd, Int.reduceMul, Int.reduceSub, Nat.reduceSucc, Nat.reduceGT, Nat.reducePow, Int.reducePow, reduceCtorEq, ↓reduceIte]
                refine ⟨k + 1, by omega, by omega, Weak.mk ?_⟩
                try simp only [List.length_map, lO]
                simp (disch := omega) only [instO, zeroI, List.map_nil, eT, go_sem, Nat.reduceAdd, Nat.reduceMul, Nat.reduceSub, Nat.reduceLeDiff, Nat.reduceLT, Nat.reduceEqDiff, Nat.reduceBEq, Nat.reduceBNe, Int.reduceNeg, Int.reduceToNat, Int.reduceLT, Int.reduceLE, Int.reduceEq, Int.reduceAdd, Int.reduceMul, Int.reduceSub, Nat.reduceSucc, Nat.reduceGT, Nat.reducePow, Int.reducePow, reduceCtorEq, ↓reduceIte]
              · have hmO : ((ordsL x.orders (l.take k)).map eOrd).length = x.orders.length := by rw [List.length_map, lO]
                have c9 := order49_c (ordsL x.orders (l.take k)) a.toNat 10 (by rw [lO]; omega)
                rw [ordsL_set (by omega) (v := ⟨10, a⟩) (by simp only; omega), ← hsn, lO, ← hmO] at c9
                have eT : typsL x.types (l.take (k + 1)) = typsL x.types (l.take k) := by rw [hsn]; exact typsL_other (by simp)
                simp (disch := omega) only [instO, zeroI, List.map_nil, go_sem, Nat.reduceAdd, Nat.reduceMul, Nat.reduceSub, Nat.reduceLeDiff, Nat.reduceLT, Nat.reduceEqDiff, Nat.reduceBEq, Nat.reduceBNe, Int.reduceNeg, Int.reduceToNat, Int.reduceLT, Int.reduceLE, Int.reduceEq, Int.reduceAdd, Int.reduceMul, Int.reduceSub, Nat.reduceSucc, Nat.reduceGT, Nat.reducePow, Int.reducePow, reduceCtorEq, ↓reduceIte]
                refine awp_drawnS 7 mixed (by kernel_rfl) (by kernel_rfl) ?_
                simp (disch := omega) only [go_sem, Nat.reduceAdd, Nat.reduceMul, Nat.reduceSub, Nat.reduceLeDiff, Nat.reduceLT, Nat.reduceEqDiff, Nat.reduceBEq, Nat.reduceBNe, Int.reduceNeg, Int.reduceToNat, Int.reduceLT, Int.reduceLE, Int.reduceEq, Int.reduceAdd, Int.reduceMul, Int.reduceSub, Nat.reduceSucc, Nat.reduceGT, Nat.reducePow, Int.reducePow, reduceCtorEq, ↓reduceIte]
                rw [← hmO]
                refine (ACalls.atE (ps := [.int .i64 10]) (o := 3) rfl c9 (by simp [lO])).useH ?_
                simp (disch := omega) only [List.set_cons_succ, List.set_cons_zero, go_sem, Nat.reduceAdd, Nat.reduceMul, Nat.reduceSub, Nat.reduceLeDiff, Nat.reduceLT, Nat.reduceEqDiff, Nat.reduceBEq, Nat.reduceBNe, Int.reduceNeg, Int.reduceToNat, Int.reduceLT, Int.reduceLE, Int.reduceEq, Int.reduceAdd, Int.reduceMul, Int.reduceSub, Nat.reduceSucc, Nat.reduceGT, Nat.reducePow, Int.reducePow, reduceCtorEq, ↓reduceIte]
                refine ⟨k + 1, by omega, by omega, Weak.mk ?_⟩
                try simp only [List.length_map, lO]
                simp (disch := omega) only [instO, zeroI, List.map_nil, eT, go_sem, Nat.reduceAdd, Nat.reduceMul, Nat.reduceSub, Nat.reduceLeDiff, Nat.reduceLT, Nat.reduceEqDiff, Nat.reduceBEq, Nat.reduceBNe, Int.reduceNeg, Int.reduceToNat, Int.reduceLT, Int.reduceLE, Int.reduceEq, Int.reduceAdd, Int.reduceMul, Int.reduceSub, Nat.reduceSucc, Nat.reduceGT, Nat.reducePow, Int.reducePow, reduceCtorEq, ↓reduceIte]
            · rcases hkd with rfl | rfl | rfl | rfl
              · have hmT : ((typsL x.types (l.take k)).map eTyp).length = x.types.length := by rw [List.length_map, lT]
                have c9 := fun (H : List AM.Obj) (hH : H[2]? = some (.elems 14 ((typsL x.types (l.take k)).map eTyp))) => vehicle49_c (typsL x.types (l.take k)) a.toNat 3 (by simp) (by rw [lT]; omega) (hcap2 k a.toNat (by omega)) hH
                rw [typsL_set (by omega) (v := ⟨3, a⟩) (by simp only; omega), ← hsn, lT, ← hmT] at c9
                have eO : ordsL x.orders (l.take (k + 1)) = ordsL x.orders (l.take k) := by rw [hsn]; exact ordsL_other (by simp)
                simp (disch := omega) only [instO, zeroI, List.map_nil, go_sem, Nat.reduceAdd, Nat.reduceMul, Nat.reduceSub, Nat.reduceLeDiff, Nat.reduceLT, Nat.reduceEqDiff, Nat.reduceBEq, Nat.reduceBNe, Int.reduceNeg, Int.reduceToNat, Int.reduceLT, Int.reduceLE, Int.reduceEq, Int.reduceAdd, Int.reduceMul, Int.reduceSub, Nat.reduceSucc, Nat.reduceGT, Nat.reducePow, Int.reducePow, reduceCtorEq, ↓reduceIte]
                refine awp_drawnS 7 mixed (by kernel_rfl) (by kernel_rfl) ?_
                simp (disch := omega) only [go_sem, Nat.reduceAdd, Nat.reduceMul, Nat.reduceSub, Nat.reduceLeDiff, Nat.reduceLT, Nat.reduceEqDiff, Nat.reduceBEq, Nat.reduceBNe, Int.reduceNeg, Int.reduceToNat, Int.reduceLT, Int.reduceLE, Int.reduceEq, Int.reduceAdd, Int.reduceMul, Int.reduceSub, Nat.reduceSucc, Nat.reduceGT, Nat.reducePow, Int.reducePow, reduceCtorEq, ↓reduceIte]
                rw [← hmT]
                refine (c9 _ rfl).useH ?_
                simp (disch := omega) only [List.set_cons_succ, List.set_cons_zero, go_sem, Nat.reduceAdd, Nat.reduceMul, Nat.reduceSub, Nat.reduceLeDiff, Nat.reduceLT, Nat.reduceEqDiff, Nat.reduceBEq, Nat.reduceBNe, Int.reduceNeg, Int.reduceToNat, Int.reduceLT, Int.reduceLE, Int.reduceEq, Int.reduceAdd, Int.reduceMul, Int.reduceSub, Nat.reduceSucc, Nat.reduceGT, Nat.reducePow, Int.reducePow, reduceCtorEq, ↓reduceIte]
                refine ⟨k + 1, by omega, by omega, Weak.mk ?_⟩
                try simp only [List.length_map, lT]
                simp (disch := omega) only [instO, zeroI, List.map_nil, eO, go_sem, Nat.reduceAdd, Nat.reduceMul, Nat.reduceSub, Nat.reduceLeDiff, Nat.reduceLT, Nat.reduceEqDiff, Nat.reduceBEq, Nat.reduceBNe, Int.reduceNeg, Int.reduceToNat, Int.reduceLT, Int.reduceLE, Int.reduceEq, Int.reduceAdd, Int.reduceMul, Int.reduceSub, Nat.reduceSucc, Nat.reduceGT, Nat.reducePow, Int.reducePow, reduceCtorEq, ↓reduceIte]
              · have hmT : ((typsL x.types (l.take k)).map eTyp).length = x.types.length := by rw [List.length_map, lT]
                have c9 := fun (H : List AM.Obj) (hH : H[2]? = some (.elems 14 ((typsL x.types (l.take k)).map eTyp))) => vehicle49_c (typsL x.types (l.take k)) a.toNat 7 (by simp) (by rw [lT]; omega) (hcap2 k a.toNat (by omega)) hH
                rw [typsL_set (by omega) (v := ⟨7, a⟩) (by simp only; omega), ← hsn, lT, ← hmT] at c9
                have eO : ordsL x.orders (l.take (k + 1)) = ordsL x.orders (l.take k) := by rw [hsn]; exact ordsL_other (by simp)
                simp (disch := omega) only [instO, zeroI, List.map_nil, go_sem, Nat.reduceAdd, Nat.reduceMul, Nat.reduceSub, Nat.reduceLeDiff, Nat.reduceLT, Nat.reduceEqDiff, Nat.reduceBEq, Nat.reduceBNe, Int.reduceNeg, Int.reduceToNat, Int.reduceLT, Int.reduceLE, Int.reduceEq, Int.reduceAdd, Int.reduceMul, Int.reduceSub, Nat.reduceSucc, Nat.reduceGT, Nat.reducePow, Int.reducePow, reduceCtorEq, ↓reduceIte]
                refine awp_drawnS 7 mixed (by kernel_rfl) (by kernel_rfl) ?_
                simp (disch := omega) only [go_sem, Nat.reduceAdd, Nat.reduceMul, Nat.reduceSub, Nat.reduceLeDiff, Nat.reduceLT, Nat.reduceEqDiff, Nat.reduceBEq, Nat.reduceBNe, Int.reduceNeg, Int.reduceToNat, Int.reduceLT, Int.reduceLE, Int.reduceEq, Int.reduceAdd, Int.reduceMul, Int.reduceSub, Nat.reduceSucc, Nat.reduceGT, Nat.reducePow, Int.reducePow, reduceCtorEq, ↓reduceIte]
                rw [← hmT]
                refine (c9 _ rfl).useH ?_
                simp (disch := omega) only [List.set_cons_succ, List.set_cons_zero, go_sem, Nat.reduceAdd, Nat.reduceMul, Nat.reduceSub, Nat.reduceLeDiff, Nat.reduceLT, Nat.reduceEqDiff, Nat.reduceBEq, Nat.reduceBNe, Int.reduceNeg, Int.reduceToNat, Int.reduceLT, Int.reduceLE, Int.reduceEq, Int.reduceAdd, Int.reduceMul, Int.reduceSub, Nat.reduceSucc, Nat.reduceGT, Nat.reducePow, Int.reducePow, reduceCtorEq, ↓reduceIte]
                refine ⟨k + 1, by omega, by omega, Weak.mk ?_⟩
                try simp only [List.length_map, lT]
                simp (disch := omega) only [instO, zeroI, List.map_nil, eO, go_sem, Nat.reduceAdd, Nat.reduceMul, Nat.reduceSub, Nat.reduceLeDiff, Nat.reduceLT, Nat.reduceEqDiff, Nat.reduceBEq, Nat.reduceBNe, Int.reduceNeg, Int.reduceToNat, Int.reduceLT, Int.reduceLE, Int.reduceEq, Int.reduceAdd, Int.reduceMul, Int.reduceSub, Nat.reduceSucc, Nat.reduceGT, Nat.reducePow, Int.reducePow, reduceCtorEq, ↓reduceIte]
              · have hmT : ((typsL x.types (l.take k)).map eTyp).length = x.types.length := by rw [List.length_map, lT]
                have c9 := fun (H : List AM.Obj) (hH : H[2]? = some (.elems 14 ((typsL x.types (l.take k)).map eTyp))) => vehicle49_c (typsL x.types (l.take k)) a.toNat 8 (by simp) (by rw [lT]; omega) (hcap2 k a.toNat (by omega)) hH
                rw [typsL_set (by omega) (v := ⟨8, a⟩) (by simp only; omega), ← hsn, lT, ← hmT] at c9
                have eO : ordsL x.orders (l.take (k + 1)) = ordsL x.orders (l.take k) := by rw [hsn]; exact ordsL_other (by simp)
                simp (disch := omega) only [instO, zeroI, List.map_nil, go_sem, Nat.reduceAdd, Nat.reduceMul, Nat.reduceSub, Nat.reduceLeDiff, Nat.reduceLT, Nat.reduceEqDiff, Nat.reduceBEq, Nat.reduceBNe, Int.reduceNeg, Int.reduceToNat, Int.reduceLT, Int.reduceLE, Int.reduceEq, Int.reduceAdd, Int.reduceMul, Int.reduceSub, Nat.reduceSucc, Nat.reduceGT, Nat.reducePow, Int.reducePow, reduceCtorEq, ↓reduceIte]
                refine awp_drawnS 7 mixed (by kernel_rfl) (by kernel_rfl) ?_
                simp (disch := omega) only [go_sem, Nat.reduceAdd, Nat.reduceMul, Nat.reduceSub, Nat.reduceLeDiff, Nat.reduceLT, Nat.reduceEqDiff, Nat.reduceBEq, Nat.reduceBNe, Int.reduceNeg, Int.reduceToNat, Int.reduceLT, Int.reduceLE, Int.reduceEq, Int.reduceAdd, Int.reduceMul, Int.reduceSub, Nat.reduceSucc, Nat.reduceGT, Nat.reducePow, Int.reducePow, reduceCtorEq, ↓reduceIte]
                rw [← hmT]
                refine (c9 _ rfl).useH ?_
                simp (disch := omega) only [List.set_cons_succ, List.set_cons_zero, go_sem, Nat.reduceAdd, Nat.reduceMul, Nat.reduceSub, Nat.reduceLeDiff, Nat.reduceLT, Nat.reduceEqDiff, Nat.reduceBEq, Nat.reduceBNe, Int.reduceNeg, Int.reduceToNat, Int.reduceLT, Int.reduceLE, Int.reduceEq, Int.reduceAdd, Int.reduceMul, Int.reduceSub, Nat.reduceSucc, Nat.reduceGT, Nat.reducePow, Int.reducePow, reduceCtorEq, ↓reduceIte]
                refine ⟨k + 1, by omega, by omega, Weak.mk ?_⟩
                try simp only [List.length_map, lT]
                simp (disch := omega) only [instO, zeroI, List.map_nil, eO, go_sem, Nat.reduceAdd, Nat.reduceMul, Nat.reduceSub, Nat.reduceLeDiff, Nat.reduceLT, Nat.reduceEqDiff, Nat.reduceBEq, Nat.reduceBNe, Int.reduceNeg, Int.reduceToNat, Int.reduceLT, Int.reduceLE, Int.reduceEq, Int.reduceAdd, Int.reduceMul, Int.reduceSub, Nat.reduceSucc, Nat.reduceGT, Nat.reducePow, Int.reducePow, reduceCtorEq, ↓reduceIte]
              · have hmT : ((typsL x.types (l.take k)).map eTyp).length = x.types.length := by rw [List.length_map, lT]
                have c9 := fun (H : List AM.Obj) (hH : H[2]? = some (.elems 14 ((typsL x.types (l.take k)).map eTyp))) => vehicle49_c (typsL x.types (l.take k)) a.toNat 9 (by simp) (by rw [lT]; omega) (hcap2 k a.toNat (by omega)) hH
                rw [typsL_set (by omega) (v := ⟨9, a⟩) (by simp only; omega), ← hsn, lT, ← hmT] at c9
                have eO : ordsL x.orders (l.take (k + 1)) = ordsL x.orders (l.take k) := by rw [hsn]; exact ordsL_other (by simp)
                simp (disch := omega) only [instO, zeroI, List.map_nil, go_sem, Nat.reduceAdd, Nat.reduceMul, Nat.reduceSub, Nat.reduceLeDiff, Nat.reduceLT, Nat.reduceEqDiff, Nat.reduceBEq, Nat.reduceBNe, Int.reduceNeg, Int.reduceToNat, Int.reduceLT, Int.reduceLE, Int.reduceEq, Int.reduceAdd, Int.reduceMul, Int.reduceSub, Nat.reduceSucc, Nat.reduceGT, Nat.reducePow, Int.reducePow, reduceCtorEq, ↓reduceIte]
                refine awp_drawnS 7 mixed (by kernel_rfl) (by kernel_rfl) ?_
                simp (disch := omega) only [go_sem, Nat.reduceAdd, Nat.reduceMul, Nat.reduceSub, Nat.reduceLeDiff, Nat.reduceLT, Nat.reduceEqDiff, Nat.reduceBEq, Nat.reduceBNe, Int.reduceNeg, Int.reduceToNat, Int.reduceLT, Int.reduceLE, Int.reduceEq, Int.reduceAdd, Int.reduceMul, Int.reduceSub, Nat.reduceSucc, Nat.reduceGT, Nat.reducePow, Int.reducePow, reduceCtorEq, ↓reduceIte]
                rw [← hmT]
                refine (c9 _ rfl).useH ?_
                simp (disch := omega) only [List.set_cons_succ, List.set_cons_zero, go_sem, Nat.reduceAdd, Nat.reduceMul, Nat.reduceSub, Nat.reduceLeDiff, Nat.reduceLT, Nat.reduceEqDiff, Nat.reduceBEq, Nat.reduceBNe, Int.reduceNeg, Int.reduceToNat, Int.reduceLT, Int.reduceLE, Int.reduceEq, Int.reduceAdd, Int.reduceMul, Int.reduceSub, Nat.reduceSucc, Nat.reduceGT, Nat.reducePow, Int.reducePow, reduceCtorEq, ↓reduceIte]
                refine ⟨k + 1, by omega, by omega, Weak.mk ?_⟩
                try simp only [List.length_map, lT]
                simp (disch := omega) only [instO, zeroI, List.map_nil, eO, go_sem, Nat.reduceAdd, Nat.reduceMul, Nat.reduceSub, Nat.reduceLeDiff, Nat.reduceLT, Nat.reduceEqDiff, Nat.reduceBEq, Nat.reduceBNe, Int.reduceNeg, Int.reduceToNat, Int.reduceLT, Int.reduceLE, Int.reduceEq, Int.reduceAdd, Int.reduceMul, Int.reduceSub, Nat.reduceSucc, Nat.reduceGT, Nat.reducePow, Int.reducePow, reduceCtorEq, ↓reduceIte]
            · have eT : typsL x.types (l.take (k + 1)) = typsL x.types (l.take k) := by rw [hsn]; exact typsL_other (by simp only; omega)
              have eO : ordsL x.orders (l.take (k + 1)) = ordsL x.orders (l.take k) := by rw [hsn]; exact ordsL_other (by simp only; omega)
              rcases hkd with rfl | rfl
              · simp (disch := omega) only [instO, zeroI, List.map_nil, go_sem, Nat.reduceAdd, Nat.reduceMul, Nat.reduceSub, Nat.reduceLeDiff, Nat.reduceLT, Nat.reduceEqDiff, Nat.reduceBEq, Nat.reduceBNe, Int.reduceNeg, Int.reduceToNat, Int.reduceLT, Int.reduceLE, Int.reduceEq, Int.reduceAdd, Int.reduceMul, Int.reduceSub, Nat.reduceSucc, Nat.reduceGT, Nat.reducePow, Int.reducePow, reduceCtorEq, ↓reduceIte]
                exact ⟨k + 1, by omega, by omega, Weak.mk (by simp (disch := omega) only [instO, zeroI, List.map_nil, eT, eO, go_sem, Nat.reduceAdd, Nat.reduceMul, Nat.reduceSub, Nat.reduceLeDiff, Nat.reduceLT, Nat.reduceEqDiff, Nat.reduceBEq, Nat.reduceBNe, Int.reduceNeg, Int.reduceToNat, Int.reduceLT, Int.reduceLE, Int.reduceEq, Int.reduceAdd, Int.reduceMul, Int.reduceSub, Nat.reduceSucc, Nat.reduceGT, Nat.reducePow, Int.reducePow, reduceCtorEq, ↓reduceIte])⟩
              · simp (disch := omega) only [instO, zeroI, List.map_nil, go_sem, Nat.reduceAdd, Nat.reduceMul, Nat.reduceSub, Nat.reduceLeDiff, Nat.reduceLT, Nat.reduceEqDiff, Nat.reduceBEq, Nat.reduceBNe, Int.reduceNeg, Int.reduceToNat, Int.reduceLT, Int.reduceLE, Int.reduceEq, Int.reduceAdd, Int.reduceMul, Int.reduceSub, Nat.reduceSucc, Nat.reduceGT, Nat.reducePow, Int.reducePow, reduceCtorEq, ↓reduceIte]
                exact ⟨k + 1, by omega, by omega, Weak.mk (by simp (disch := omega) only [instO, zeroI, List.map_nil, eT, eO, go_sem, Nat.reduceAdd, Nat.reduceMul, Nat.reduceSub, Nat.reduceLeDiff, Nat.reduceLT, Nat.reduceEqDiff, Nat.reduceBEq, Nat.reduceBNe, Int.reduceNeg, Int.reduceToNat, Int.reduceLT, Int.reduceLE, Int.reduceEq, Int.reduceAdd, Int.reduceMul, Int.reduceSub, Nat.reduceSucc, Nat.reduceGT, Nat.reducePow, Int.reducePow, reduceCtorEq, ↓reduceIte])⟩
          · have hkl : k = l.length := by omega
            subst hkl
            rw [List.take_length]
            have cA := pairs49_c x.apart l 5 x.apart_c c (by omega) hl
            have cB := pairs49_c x.before l 6 x.before_c c (by omega) hl
            refine awp_drawnS 9 mixed (by kernel_rfl) (by kernel_rfl) ?_
            simp (disch := omega) only [go_sem, Nat.reduceAdd, Nat.reduceMul, Nat.reduceSub, Nat.reduceLeDiff, Nat.reduceLT, Nat.reduceEqDiff, Nat.reduceBEq, Nat.reduceBNe, Int.reduceNeg, Int.reduceToNat, Int.reduceLT, Int.reduceLE, Int.reduceEq, Int.reduceAdd, Int.reduceMul, Int.reduceSub, Nat.reduceSucc, Nat.reduceGT, Nat.reducePow, Int.reducePow, reduceCtorEq, ↓reduceIte]
            refine exq_call (cA) ?_
            simp (disch := omega) only [go_sem, Nat.reduceAdd, Nat.reduceMul, Nat.reduceSub, Nat.reduceLeDiff, Nat.reduceLT, Nat.reduceEqDiff, Nat.reduceBEq, Nat.reduceBNe, Int.reduceNeg, Int.reduceToNat, Int.reduceLT, Int.reduceLE, Int.reduceEq, Int.reduceAdd, Int.reduceMul, Int.reduceSub, Nat.reduceSucc, Nat.reduceGT, Nat.reducePow, Int.reducePow, reduceCtorEq, ↓reduceIte]
            refine exq_call (cB) ?_
            simp (disch := omega) only [go_sem, Nat.reduceAdd, Nat.reduceMul, Nat.reduceSub, Nat.reduceLeDiff, Nat.reduceLT, Nat.reduceEqDiff, Nat.reduceBEq, Nat.reduceBNe, Int.reduceNeg, Int.reduceToNat, Int.reduceLT, Int.reduceLE, Int.reduceEq, Int.reduceAdd, Int.reduceMul, Int.reduceSub, Nat.reduceSucc, Nat.reduceGT, Nat.reducePow, Int.reducePow, reduceCtorEq, ↓reduceIte]
            rw [← lT l, ← lO l]
            refine awp_weak (Weak.fz (o := 2) (by rfl)) ?_
            refine awp_weak (Weak.fz (o := 3) (by rfl)) ?_
            refine awp_sound [] _ _ _ _ ?_
            simp (disch := omega) only [List.map_cons, List.map_nil, List.set_cons_succ, List.set_cons_zero, go_sem, Nat.reduceAdd, Nat.reduceMul, Nat.reduceSub, Nat.reduceLeDiff, Nat.reduceLT, Nat.reduceEqDiff, Nat.reduceBEq, Nat.reduceBNe, Int.reduceNeg, Int.reduceToNat, Int.reduceLT, Int.reduceLE, Int.reduceEq, Int.reduceAdd, Int.reduceMul, Int.reduceSub, Nat.reduceSucc, Nat.reduceGT, Nat.reducePow, Int.reducePow, reduceCtorEq, ↓reduceIte]
            exact ⟨_, _, Weak.mk (by simp (disch := omega) only [withoutI, go_sem, Nat.reduceAdd, Nat.reduceMul, Nat.reduceSub, Nat.reduceLeDiff, Nat.reduceLT, Nat.reduceEqDiff, Nat.reduceBEq, Nat.reduceBNe, Int.reduceNeg, Int.reduceToNat, Int.reduceLT, Int.reduceLE, Int.reduceEq, Int.reduceAdd, Int.reduceMul, Int.reduceSub, Nat.reduceSucc, Nat.reduceGT, Nat.reducePow, Int.reducePow, reduceCtorEq, ↓reduceIte]), rfl, rfl⟩
end Go.Proofs.Ytlbhefiehkmhjaa.K
set_option linter.unusedVariables false
set_option linter.unusedSimpArgs false
namespace Go.Proofs.Ytlbhefiehkmhjaa.K
open Go Go.AM Go.Proofs
set_option maxRecDepth 8000
set_option maxHeartbeats 8000000
theorem rorderly49_c (o : Ord) (a : Int) (w : List Itm) (d : Bool) (hw : w.length ≤ 1048576) : ACalls Try.prog 81 [.p (eOrd o), .p (.int .i64 a), .p (.list d (w.map eItm))] [] fun y H' => y = .p (eOrd (ordL o a w)) ∧ H' = [] := by
  refine acalls_pure (fn := Try.f81) Try.func81 rfl isF81 ?_
  have n1 : (0 ≤ tIx w ⟨1, a⟩) = ((⟨1, a⟩ : Itm) ∈ w) := propext tIx_mem
  have n2 : (0 ≤ tIx w ⟨2, a⟩) = ((⟨2, a⟩ : Itm) ∈ w) := propext tIx_mem
  have n4 : (0 ≤ tIx w ⟨4, a⟩) = ((⟨4, a⟩ : Itm) ∈ w) := propext tIx_mem
  have n10 : (0 ≤ tIx w ⟨10, a⟩) = ((⟨10, a⟩ : Itm) ∈ w) := propext tIx_mem
  by_cases h1 : (⟨1, a⟩ : Itm) ∈ w <;> by_cases h2 : (⟨2, a⟩ : Itm) ∈ w <;> by_cases h4 : (⟨4, a⟩ : Itm) ∈ w <;> by_cases h10 : (⟨10, a⟩ : Itm) ∈ w
  all_goals
    simp (disch := omega) only [Try.f81, go_sem, Nat.reduceAdd, Nat.reduceMul, Nat.reduceSub, Nat.reduceLeDiff, Nat.reduceLT, Nat.reduceEqDiff, Nat.reduceBEq, Nat.reduceBNe, Int.reduceNeg, Int.reduceToNat, Int.reduceLT, Int.reduceLE, Int.reduceEq, Int.reduceAdd, Int.reduceMul, Int.reduceSub, Nat.reduceSucc, Nat.reduceGT, Nat.reducePow, Int.reducePow, reduceCtorEq, ↓reduceIte]
    refine (rindex49_c w d ⟨1, a⟩ hw).use ?_
    simp (disch := omega) only [n1, h1, go_sem, Nat.reduceAdd, Nat.reduceMul, Nat.reduceSub, Nat.reduceLeDiff, Nat.reduceLT, Nat.reduceEqDiff, Nat.reduceBEq, Nat.reduceBNe, Int.reduceNeg, Int.reduceToNat, Int.reduceLT, Int.reduceLE, Int.reduceEq, Int.reduceAdd, Int.reduceMul, Int.reduceSub, Nat.reduceSucc, Nat.reduceGT, Nat.reducePow, Int.reducePow, reduceCtorEq, ↓reduceIte]
    refine (rindex49_c w d ⟨2, a⟩ hw).use ?_
    simp (disch := omega) only [n2, h2, go_sem, Nat.reduceAdd, Nat.reduceMul, Nat.reduceSub, Nat.reduceLeDiff, Nat.reduceLT, Nat.reduceEqDiff, Nat.reduceBEq, Nat.reduceBNe, Int.reduceNeg, Int.reduceToNat, Int.reduceLT, Int.reduceLE, Int.reduceEq, Int.reduceAdd, Int.reduceMul, Int.reduceSub, Nat.reduceSucc, Nat.reduceGT, Nat.reducePow, Int.reducePow, reduceCtorEq, ↓reduceIte]
    refine (rindex49_c w d ⟨4, a⟩ hw).use ?_
    simp (disch := omega) only [n4, h4, go_sem, Nat.reduceAdd, Nat.reduceMul, Nat.reduceSub, Nat.reduceLeDiff, Nat.reduceLT, Nat.reduceEqDiff, Nat.reduceBEq, Nat.reduceBNe, Int.reduceNeg, Int.reduceToNat, Int.reduceLT, Int.reduceLE, Int.reduceEq, Int.reduceAdd, Int.reduceMul, Int.reduceSub, Nat.reduceSucc, Nat.reduceGT, Nat.reducePow, Int.reducePow, reduceCtorEq, ↓reduceIte]
    refine (rindex49_c w d ⟨10, a⟩ hw).use ?_
    simp (disch := omega) only [n10, h10, ordL, h1, h2, h4, go_sem, Nat.reduceAdd, Nat.reduceMul, Nat.reduceSub, Nat.reduceLeDiff, Nat.reduceLT, Nat.reduceEqDiff, Nat.reduceBEq, Nat.reduceBNe, Int.reduceNeg, Int.reduceToNat, Int.reduceLT, Int.reduceLE, Int.reduceEq, Int.reduceAdd, Int.reduceMul, Int.reduceSub, Nat.reduceSucc, Nat.reduceGT, Nat.reducePow, Int.reducePow, reduceCtorEq, ↓reduceIte]
def zeroT : Typ := ⟨[], 0, 0, 0, true, [], 0, 0, 0, 0, 0, 0, 0, 0, 0⟩
theorem rtypely49_c (t : Typ) (a : Int) (w : List Itm) (d : Bool) (hw : w.length ≤ 1048576) (hc : t.cap.length ≤ 1048576) : ACalls Try.prog 82 [.p (eTyp t), .p (.int .i64 a), .p (.list d (w.map eItm))] [] fun y H' => y = .p (eTyp (typL t a w)) ∧ H' = [] := by
  refine acalls_pureC [3, 8] (fn := Try.f82) Try.func82 rfl isF82 ?_
  have n3 : (0 ≤ tIx w ⟨3, a⟩) = ((⟨3, a⟩ : Itm) ∈ w) := propext tIx_mem
  have n7 : (0 ≤ tIx w ⟨7, a⟩) = ((⟨7, a⟩ : Itm) ∈ w) := propext tIx_mem
  have n8 : (0 ≤ tIx w ⟨8, a⟩) = ((⟨8, a⟩ : Itm) ∈ w) := propext tIx_mem
  have n9 : (0 ≤ tIx w ⟨9, a⟩) = ((⟨9, a⟩ : Itm) ∈ w) := propext tIx_mem
  by_cases h3 : (⟨3, a⟩ : Itm) ∈ w
  · simp (disch := omega) only [Try.f82, go_sem, Nat.reduceAdd, Nat.reduceMul, Nat.reduceSub, Nat.reduceLeDiff, Nat.reduceLT, Nat.reduceEqDiff, Nat.reduceBEq, Nat.reduceBNe, Int.reduceNeg, Int.reduceToNat, Int.reduceLT, Int.reduceLE, Int.reduceEq, Int.reduceAdd, Int.reduceMul, Int.reduceSub, Nat.reduceSucc, Nat.reduceGT, Nat.reducePow, Int.reducePow, reduceCtorEq, ↓reduceIte]
    refine (rindex49_c w d ⟨3, a⟩ hw).use ?_
    simp (disch := omega) only [n3, h3, go_sem, Nat.reduceAdd, Nat.reduceMul, Nat.reduceSub, Nat.reduceLeDiff, Nat.reduceLT, Nat.reduceEqDiff, Nat.reduceBEq, Nat.reduceBNe, Int.reduceNeg, Int.reduceToNat, Int.reduceLT, Int.reduceLE, Int.reduceEq, Int.reduceAdd, Int.reduceMul, Int.reduceSub, Nat.reduceSucc, Nat.reduceGT, Nat.reducePow, Int.reducePow, reduceCtorEq, ↓reduceIte]
    refine awp_weak (Weak.ofNil 7 1 (by simp (disch := omega) only [go_sem, Nat.reduceAdd, Nat.reduceMul, Nat.reduceSub, Nat.reduceLeDiff, Nat.reduceLT, Nat.reduceEqDiff, Nat.reduceBEq, Nat.reduceBNe, Int.reduceNeg, Int.reduceToNat, Int.reduceLT, Int.reduceLE, Int.reduceEq, Int.reduceAdd, Int.reduceMul, Int.reduceSub, Nat.reduceSucc, Nat.reduceGT, Nat.reducePow, Int.reducePow, reduceCtorEq, ↓reduceIte]) (by simp) (Weak.refl _ _ _)) ?_
    refine awp_sound [] _ _ _ _ ?_
    simp (disch := omega) only [go_sem, Nat.reduceAdd, Nat.reduceMul, Nat.reduceSub, Nat.reduceLeDiff, Nat.reduceLT, Nat.reduceEqDiff, Nat.reduceBEq, Nat.reduceBNe, Int.reduceNeg, Int.reduceToNat, Int.reduceLT, Int.reduceLE, Int.reduceEq, Int.reduceAdd, Int.reduceMul, Int.reduceSub, Nat.reduceSucc, Nat.reduceGT, Nat.reducePow, Int.reducePow, reduceCtorEq, ↓reduceIte]
    refine awp_forC [] [1, 2, 3, 6] (fun k : Nat => [(7, .sl 2 0 (List.replicate k (1000 : Int)).length (List.replicate k (1000 : Int)).length), (8, .p (.int .i64 k))]) (fun k => [typO t, typO zeroT, .elems 1 ((List.replicate k (1000 : Int)).map eI)]) (fun k => k ≤ t.cap.length) (fun k => t.cap.length - k) 0 (by simp) (Weak.mk ?_) ?_
    · simp (disch := omega) only [typO, zeroT, go_sem, Nat.reduceAdd, Nat.reduceMul, Nat.reduceSub, Nat.reduceLeDiff, Nat.reduceLT, Nat.reduceEqDiff, Nat.reduceBEq, Nat.reduceBNe, Int.reduceNeg, Int.reduceToNat, Int.reduceLT, Int.reduceLE, Int.reduceEq, Int.reduceAdd, Int.reduceMul, Int.reduceSub, Nat.reduceSucc, Nat.reduceGT, Nat.reducePow, Int.reducePow, reduceCtorEq, ↓reduceIte]
    · intro k hk
      have hlr : (List.replicate k (1000 : Int)).length = k := by simp
      have hsn : List.replicate (k + 1) (1000 : Int) = List.replicate k (1000 : Int) ++ [1000] := by rw [List.replicate_succ']
      generalize hm : List.replicate k (1000 : Int) = m at hlr hsn ⊢
      simp (disch := omega) only [typO, zeroT, go_sem, Nat.reduceAdd, Nat.reduceMul, Nat.reduceSub, Nat.reduceLeDiff, Nat.reduceLT, Nat.reduceEqDiff, Nat.reduceBEq, Nat.reduceBNe, Int.reduceNeg, Int.reduceToNat, Int.reduceLT, Int.reduceLE, Int.reduceEq, Int.reduceAdd, Int.reduceMul, Int.reduceSub, Nat.reduceSucc, Nat.reduceGT, Nat.reducePow, Int.reducePow, reduceCtorEq, ↓reduceIte]
      refine acond_b (fun h => ?_) (fun h => ?_) <;> (try simp only [decide_eq_true_eq, decide_eq_false_iff_not] at h) <;> simp (disch := omega) only [Sh.out h, go_sem, Nat.reduceAdd, Nat.reduceMul, Nat.reduceSub, Nat.reduceLeDiff, Nat.reduceLT, Nat.reduceEqDiff, Nat.reduceBEq, Nat.reduceBNe, Int.reduceNeg, Int.reduceToNat, Int.reduceLT, Int.reduceLE, Int.reduceEq, Int.reduceAdd, Int.reduceMul, Int.reduceSub, Nat.reduceSucc, Nat.reduceGT, Nat.reducePow, Int.reducePow, reduceCtorEq, ↓reduceIte]
      · exact ⟨k + 1, by omega, by omega, Weak.mk (by rw [hsn]; simp (disch := omega) only [typO, zeroT, go_sem, Nat.reduceAdd, Nat.reduceMul, Nat.reduceSub, Nat.reduceLeDiff, Nat.reduceLT, Nat.reduceEqDiff, Nat.reduceBEq, Nat.reduceBNe, Int.reduceNeg, Int.reduceToNat, Int.reduceLT, Int.reduceLE, Int.reduceEq, Int.reduceAdd, Int.reduceMul, Int.reduceSub, Nat.reduceSucc, Nat.reduceGT, Nat.reducePow, Int.reducePow, reduceCtorEq, ↓reduceIte])⟩
      · have hk2 : k = t.cap.length := by omega
        subst hk2
        subst hm
        refine awp_weak (Weak.fz (o := 2) (by rfl)) ?_
        refine awp_sound [] _ _ _ _ ?_
        simp (disch := omega) only [List.map_cons, List.map_nil, List.set_cons_succ, List.set_cons_zero, go_sem, Nat.reduceAdd, Nat.reduceMul, Nat.reduceSub, Nat.reduceLeDiff, Nat.reduceLT, Nat.reduceEqDiff, Nat.reduceBEq, Nat.reduceBNe, Int.reduceNeg, Int.reduceToNat, Int.reduceLT, Int.reduceLE, Int.reduceEq, Int.reduceAdd, Int.reduceMul, Int.reduceSub, Nat.reduceSucc, Nat.reduceGT, Nat.reducePow, Int.reducePow, reduceCtorEq, ↓reduceIte]
        by_cases h7 : (⟨7, a⟩ : Itm) ∈ w <;> by_cases h8 : (⟨8, a⟩ : Itm) ∈ w <;> by_cases h9 : (⟨9, a⟩ : Itm) ∈ w
        all_goals
          refine (rindex49_c w d ⟨7, a⟩ hw).use ?_
          simp (disch := omega) only [n7, h7, go_sem, Nat.reduceAdd, Nat.reduceMul, Nat.reduceSub, Nat.reduceLeDiff, Nat.reduceLT, Nat.reduceEqDiff, Nat.reduceBEq, Nat.reduceBNe, Int.reduceNeg, Int.reduceToNat, Int.reduceLT, Int.reduceLE, Int.reduceEq, Int.reduceAdd, Int.reduceMul, Int.reduceSub, Nat.reduceSucc, Nat.reduceGT, Nat.reducePow, Int.reducePow, reduceCtorEq, ↓reduceIte]
          refine (rindex49_c w d ⟨8, a⟩ hw).use ?_
          simp (disch := omega) only [n8, h8, go_sem, Nat.reduceAdd, Nat.reduceMul, Nat.reduceSub, Nat.reduceLeDiff, Nat.reduceLT, Nat.reduceEqDiff, Nat.reduceBEq, Nat.reduceBNe, Int.reduceNeg, Int.reduceToNat, Int.reduceLT, Int.reduceLE, Int.reduceEq, Int.reduceAdd, Int.reduceMul, Int.reduceSub, Nat.reduceSucc, Nat.reduceGT, Nat.reducePow, Int.reducePow, reduceCtorEq, ↓reduceIte]
          refine (rindex49_c w d ⟨9, a⟩ hw).use ?_
          simp (disch := omega) only [n9, h9, typL, h3, h7, h8, go_sem, Nat.reduceAdd, Nat.reduceMul, Nat.reduceSub, Nat.reduceLeDiff, Nat.reduceLT, Nat.reduceEqDiff, Nat.reduceBEq, Nat.reduceBNe, Int.reduceNeg, Int.reduceToNat, Int.reduceLT, Int.reduceLE, Int.reduceEq, Int.reduceAdd, Int.reduceMul, Int.reduceSub, Nat.reduceSucc, Nat.reduceGT, Nat.reducePow, Int.reducePow, reduceCtorEq, ↓reduceIte]
  · simp (disch := omega) only [Try.f82, go_sem, Nat.reduceAdd, Nat.reduceMul, Nat.reduceSub, Nat.reduceLeDiff, Nat.reduceLT, Nat.reduceEqDiff, Nat.reduceBEq, Nat.reduceBNe, Int.reduceNeg, Int.reduceToNat, Int.reduceLT, Int.reduceLE, Int.reduceEq, Int.reduceAdd, Int.reduceMul, Int.reduceSub, Nat.reduceSucc, Nat.reduceGT, Nat.reducePow, Int.reducePow, reduceCtorEq, ↓reduceIte]
    refine (rindex49_c w d ⟨3, a⟩ hw).use ?_
    simp (disch := omega) only [n3, h3, go_sem, Nat.reduceAdd, Nat.reduceMul, Nat.reduceSub, Nat.reduceLeDiff, Nat.reduceLT, Nat.reduceEqDiff, Nat.reduceBEq, Nat.reduceBNe, Int.reduceNeg, Int.reduceToNat, Int.reduceLT, Int.reduceLE, Int.reduceEq, Int.reduceAdd, Int.reduceMul, Int.reduceSub, Nat.reduceSucc, Nat.reduceGT, Nat.reducePow, Int.reducePow, reduceCtorEq, ↓reduceIte]
    refine awp_sound [] _ _ _ _ ?_
    simp (disch := omega) only [go_sem, Nat.reduceAdd, Nat.reduceMul, Nat.reduceSub, Nat.reduceLeDiff, Nat.reduceLT, Nat.reduceEqDiff, Nat.reduceBEq, Nat.reduceBNe, Int.reduceNeg, Int.reduceToNat, Int.reduceLT, Int.reduceLE, Int.reduceEq, Int.reduceAdd, Int.reduceMul, Int.reduceSub, Nat.reduceSucc, Nat.reduceGT, Nat.reducePow, Int.reducePow, reduceCtorEq, ↓reduceIte]
    by_cases h7 : (⟨7, a⟩ : Itm) ∈ w <;> by_cases h8 : (⟨8, a⟩ : Itm) ∈ w <;> by_cases h9 : (⟨9, a⟩ : Itm) ∈ w
    all_goals
      refine (rindex49_c w d ⟨7, a⟩ hw).use ?_
      simp (disch := omega) only [n7, h7, go_sem, Nat.reduceAdd, Nat.reduceMul, Nat.reduceSub, Nat.reduceLeDiff, Nat.reduceLT, Nat.reduceEqDiff, Nat.reduceBEq, Nat.reduceBNe, Int.reduceNeg, Int.reduceToNat, Int.reduceLT, Int.reduceLE, Int.reduceEq, Int.reduceAdd, Int.reduceMul, Int.reduceSub, Nat.reduceSucc, Nat.reduceGT, Nat.reducePow, Int.reducePow, reduceCtorEq, ↓reduceIte]
      refine (rindex49_c w d ⟨8, a⟩ hw).use ?_
      simp (disch := omega) only [n8, h8, go_sem, Nat.reduceAdd, Nat.reduceMul, Nat.reduceSub, Nat.reduceLeDiff, Nat.reduceLT, Nat.reduceEqDiff, Nat.reduceBEq, Nat.reduceBNe, Int.reduceNeg, Int.reduceToNat, Int.reduceLT, Int.reduceLE, Int.reduceEq, Int.reduceAdd, Int.reduceMul, Int.reduceSub, Nat.reduceSucc, Nat.reduceGT, Nat.reducePow, Int.reducePow, reduceCtorEq, ↓reduceIte]
      refine (rindex49_c w d ⟨9, a⟩ hw).use ?_
      simp (disch := omega) only [n9, h9, typL, h3, h7, h8, go_sem, Nat.reduceAdd, Nat.reduceMul, Nat.reduceSub, Nat.reduceLeDiff, Nat.reduceLT, Nat.reduceEqDiff, Nat.reduceBEq, Nat.reduceBNe, Int.reduceNeg, Int.reduceToNat, Int.reduceLT, Int.reduceLE, Int.reduceEq, Int.reduceAdd, Int.reduceMul, Int.reduceSub, Nat.reduceSucc, Nat.reduceGT, Nat.reducePow, Int.reducePow, reduceCtorEq, ↓reduceIte]
end Go.Proofs.Ytlbhefiehkmhjaa.K
set_option linter.unusedVariables false
set_option linter.unusedSimpArgs false
namespace Go.Proofs.Ytlbhefiehkmhjaa.K
open Go Go.AM Go.Proofs
set_option maxRecDepth 8000
set_option maxHeartbeats 8000000
theorem tIx_self {l : List Itm} {k : Nat} (hk : k < l.length) : tIx l (nth l k) = (k : Int) ↔ nth l k ∉ l.take k := by
  constructor
  · intro h hm
    obtain ⟨j, hj, e⟩ := List.mem_iff_getElem.1 hm
    have hj2 : j < k := by simp at hj; omega
    have hjl : j < l.length := by omega
    rw [List.getElem_take] at e
    unfold tIx at h
    cases hf : l.findIdx? (fun w => decide (nth l k = w)) with
    | none => rw [hf] at h; simp only at h; omega
    | some i =>
      rw [hf] at h
      have hik : i = k := by simp only at h; omega
      subst hik
      rw [List.findIdx?_eq_some_iff_getElem] at hf
      obtain ⟨_, _, h3⟩ := hf
      exact h3 j hj2 (by simp [e])
  · intro h
    refine tIx_at hk rfl fun j hj e => h ?_
    rw [e, nth_get (show j < l.length by omega)]
    exact List.mem_iff_getElem.2 ⟨j, by simp; omega, by simp⟩
theorem rwithout49_c (x : Inst) (hs : ISz x) (hcap : ∀ t ∈ x.types, t.cap.length ≤ 1048576) (l : List Itm) (c : Bool) (hl : l.length ≤ 1048576) : ACalls Try.prog 38 [.p (eInst x), .p (.list c (l.map eItm))] [] fun y H' => y = .tup [.p (eInst (resW x l)), .p (.int .i64 (errW x l))] ∧ H' = [] := by
  have s1 := hs.ord
  have s2 := hs.typ
  have s3 := hs.ap
  have s4 := hs.be
  refine acalls_weak [9, 13, 17] (fn := Try.f38) Try.func38 rfl isF38 ?_
  simp (disch := omega) only [Try.f38, go_sem, Nat.reduceAdd, Nat.reduceMul, Nat.reduceSub, Nat.reduceLeDiff, Nat.reduceLT, Nat.reduceEqDiff, Nat.reduceBEq, Nat.reduceBNe, Int.reduceNeg, Int.reduceToNat, Int.reduceLT, Int.reduceLE, Int.reduceEq, Int.reduceAdd, Int.reduceMul, Int.reduceSub, Nat.reduceSucc, Nat.reduceGT, Nat.reducePow, Int.reducePow, reduceCtorEq, ↓reduceIte]
  have zI : eInst zeroI = .agg [.list true [], .list true [], .list true [], .list true [], .list true [], .list true []] := rfl
  refine awp_for [1, 2, 4] (fun k : Nat => [(6, .p (.int .i64 k))]) (fun _ => [instO x, instO zeroI]) (fun k => k ≤ l.length ∧ ∀ j, j < k → errAt x l j = 0) (fun k => l.length - k) 0 (by simp) (Weak.mk ?_) ?_
  · simp (disch := omega) only [instO, zeroI, List.map_nil, go_sem, Nat.reduceAdd, Nat.reduceMul, Nat.reduceSub, Nat.reduceLeDiff, Nat.reduceLT, Nat.reduceEqDiff, Nat.reduceBEq, Nat.reduceBNe, Int.reduceNeg, Int.reduceToNat, Int.reduceLT, Int.reduceLE, Int.reduceEq, Int.reduceAdd, Int.reduceMul, Int.reduceSub, Nat.reduceSucc, Nat.reduceGT, Nat.reducePow, Int.reducePow, reduceCtorEq, ↓reduceIte]
  · rintro k ⟨hk, hno⟩
    simp (disch := omega) only [instO, zeroI, List.map_nil, go_sem, Nat.reduceAdd, Nat.reduceMul, Nat.reduceSub, Nat.reduceLeDiff, Nat.reduceLT, Nat.reduceEqDiff, Nat.reduceBEq, Nat.reduceBNe, Int.reduceNeg, Int.reduceToNat, Int.reduceLT, Int.reduceLE, Int.reduceEq, Int.reduceAdd, Int.reduceMul, Int.reduceSub, Nat.reduceSucc, Nat.reduceGT, Nat.reducePow, Int.reducePow, reduceCtorEq, ↓reduceIte]
    refine acond_b (fun h => ?_) (fun h => ?_) <;> (try simp only [decide_eq_true_eq, decide_eq_false_iff_not] at h) <;> simp (disch := omega) only [Sh.out h, go_sem, Nat.reduceAdd, Nat.reduceMul, Nat.reduceSub, Nat.reduceLeDiff, Nat.reduceLT, Nat.reduceEqDiff, Nat.reduceBEq, Nat.reduceBNe, Int.reduceNeg, Int.reduceToNat, Int.reduceLT, Int.reduceLE, Int.reduceEq, Int.reduceAdd, Int.reduceMul, Int.reduceSub, Nat.reduceSucc, Nat.reduceGT, Nat.reducePow, Int.reducePow, reduceCtorEq, ↓reduceIte]
    · have hk2 : k < l.length := by omega
      refine awp_drawnA mixed (by kernel_rfl) (by kernel_rfl) ?_
      simp (disch := omega) only [go_sem, Nat.reduceAdd, Nat.reduceMul, Nat.reduceSub, Nat.reduceLeDiff, Nat.reduceLT, Nat.reduceEqDiff, Nat.reduceBEq, Nat.reduceBNe, Int.reduceNeg, Int.reduceToNat, Int.reduceLT, Int.reduceLE, Int.reduceEq, Int.reduceAdd, Int.reduceMul, Int.reduceSub, Nat.reduceSucc, Nat.reduceGT, Nat.reducePow, Int.reducePow, reduceCtorEq, ↓reduceIte]
      refine exq_call (rhas49_c x hs (nth l k)) ?_
      simp (disch := omega) only [go_sem, Nat.reduceAdd, Nat.reduceMul, Nat.reduceSub, Nat.reduceLeDiff, Nat.reduceLT, Nat.reduceEqDiff, Nat.reduceBEq, Nat.reduceBNe, Int.reduceNeg, Int.reduceToNat, Int.reduceLT, Int.reduceLE, Int.reduceEq, Int.reduceAdd, Int.reduceMul, Int.reduceSub, Nat.reduceSucc, Nat.reduceGT, Nat.reducePow, Int.reducePow, reduceCtorEq, ↓reduceIte]
      refine acond_b (fun h2 => ?_) (fun h2 => ?_) <;> (try simp only [decide_eq_true_eq, decide_eq_false_iff_not] at h2) <;> simp (disch := omega) only [Sh.out h2, go_sem, Nat.reduceAdd, Nat.reduceMul, Nat.reduceSub, Nat.reduceLeDiff, Nat.reduceLT, Nat.reduceEqDiff, Nat.reduceBEq, Nat.reduceBNe, Int.reduceNeg, Int.reduceToNat, Int.reduceLT, Int.reduceLE, Int.reduceEq, Int.reduceAdd, Int.reduceMul, Int.reduceSub, Nat.reduceSucc, Nat.reduceGT, Nat.reducePow, Int.reducePow, reduceCtorEq, ↓reduceIte]
      · have h3 : hasI x (nth l k) = false := by simpa using h2
        have e0 : errAt x l k = 7 := by rw [errAt, h3]; rfl
        have e : errW x l = 7 := by rw [errW_at hk2 hno (by rw [e0]; decide), e0]
        have r : resW x l = zeroI := by rw [resW, e]; rfl
        simp only [e, r, zeroI, List.map_nil]
        exact ⟨_, _, Weak.mk (by simp (disch := omega) only [go_sem, Nat.reduceAdd, Nat.reduceMul, Nat.reduceSub, Nat.reduceLeDiff, Nat.reduceLT, Nat.reduceEqDiff, Nat.reduceBEq, Nat.reduceBNe, Int.reduceNeg, Int.reduceToNat, Int.reduceLT, Int.reduceLE, Int.reduceEq, Int.reduceAdd, Int.reduceMul, Int.reduceSub, Nat.reduceSucc, Nat.reduceGT, Nat.reducePow, Int.reducePow, reduceCtorEq, ↓reduceIte]), rfl, rfl⟩
      · have h3 : hasI x (nth l k) = true := by simpa using h2
        refine (rindex49_c l c (nth l k) hl).use ?_
        simp (disch := omega) only [go_sem, Nat.reduceAdd, Nat.reduceMul, Nat.reduceSub, Nat.reduceLeDiff, Nat.reduceLT, Nat.reduceEqDiff, Nat.reduceBEq, Nat.reduceBNe, Int.reduceNeg, Int.reduceToNat, Int.reduceLT, Int.reduceLE, Int.reduceEq, Int.reduceAdd, Int.reduceMul, Int.reduceSub, Nat.reduceSucc, Nat.reduceGT, Nat.reducePow, Int.reducePow, reduceCtorEq, ↓reduceIte]
        refine acond_b (fun h4 => ?_) (fun h4 => ?_) <;> (try simp only [decide_eq_true_eq, decide_eq_false_iff_not] at h4) <;> simp (disch := omega) only [Sh.out h4, go_sem, Nat.reduceAdd, Nat.reduceMul, Nat.reduceSub, Nat.reduceLeDiff, Nat.reduceLT, Nat.reduceEqDiff, Nat.reduceBEq, Nat.reduceBNe, Int.reduceNeg, Int.reduceToNat, Int.reduceLT, Int.reduceLE, Int.reduceEq, Int.reduceAdd, Int.reduceMul, Int.reduceSub, Nat.reduceSucc, Nat.reduceGT, Nat.reducePow, Int.reducePow, reduceCtorEq, ↓reduceIte]
        · have h5 : nth l k ∈ l.take k := Classical.byContradiction fun h => h4 ((tIx_self hk2).2 h)
          have e0 : errAt x l k = 6 := by rw [errAt, if_pos h3, if_pos h5]
          have e : errW x l = 6 := by rw [errW_at hk2 hno (by rw [e0]; decide), e0]
          have r : resW x l = zeroI := by rw [resW, e]; rfl
          simp only [e, r, zeroI, List.map_nil]
          exact ⟨_, _, Weak.mk (by simp (disch := omega) only [go_sem, Nat.reduceAdd, Nat.reduceMul, Nat.reduceSub, Nat.reduceLeDiff, Nat.reduceLT, Nat.reduceEqDiff, Nat.reduceBEq, Nat.reduceBNe, Int.reduceNeg, Int.reduceToNat, Int.reduceLT, Int.reduceLE, Int.reduceEq, Int.reduceAdd, Int.reduceMul, Int.reduceSub, Nat.reduceSucc, Nat.reduceGT, Nat.reducePow, Int.reducePow, reduceCtorEq, ↓reduceIte]), rfl, rfl⟩
        · have h5 : nth l k ∉ l.take k := (tIx_self hk2).1 (Classical.not_not.1 h4)
          exact ⟨k + 1, ⟨by omega, upto_iff.2 ⟨hno, errAt_zero.2 ⟨h3, h5⟩⟩⟩, by omega, Weak.mk (by simp (disch := omega) only [instO, zeroI, List.map_nil, go_sem, Nat.reduceAdd, Nat.reduceMul, Nat.reduceSub, Nat.reduceLeDiff, Nat.reduceLT, Nat.reduceEqDiff, Nat.reduceBEq, Nat.reduceBNe, Int.reduceNeg, Int.reduceToNat, Int.reduceLT, Int.reduceLE, Int.reduceEq, Int.reduceAdd, Int.reduceMul, Int.reduceSub, Nat.reduceSucc, Nat.reduceGT, Nat.reducePow, Int.reducePow, reduceCtorEq, ↓reduceIte])⟩
    · have hkl : k = l.length := by omega
      subst hkl
      have e : errW x l = 0 := errW_ok hno
      have r : resW x l = withoutI x l := by rw [resW, if_pos e]
      rw [e, r]
      clear hk h
      refine awp_drawnL 11 12 _ [.cells [.p (.list true []), .p (.list true []), .p (.list true []), .p (.list true []), .p (.list true []), .p (.list true [])]] (.ptr 2 0) mixed (by kernel_rfl) (by kernel_rfl) (by decide) rfl rfl (by simp) (fun fr' => by simp (disch := omega) only [go_sem, Nat.reduceAdd, Nat.reduceMul, Nat.reduceSub, Nat.reduceLeDiff, Nat.reduceLT, Nat.reduceEqDiff, Nat.reduceBEq, Nat.reduceBNe, Int.reduceNeg, Int.reduceToNat, Int.reduceLT, Int.reduceLE, Int.reduceEq, Int.reduceAdd, Int.reduceMul, Int.reduceSub, Nat.reduceSucc, Nat.reduceGT, Nat.reducePow, Int.reducePow, reduceCtorEq, ↓reduceIte]) ?_
      simp (disch := omega) only [go_sem, Nat.reduceAdd, Nat.reduceMul, Nat.reduceSub, Nat.reduceLeDiff, Nat.reduceLT, Nat.reduceEqDiff, Nat.reduceBEq, Nat.reduceBNe, Int.reduceNeg, Int.reduceToNat, Int.reduceLT, Int.reduceLE, Int.reduceEq, Int.reduceAdd, Int.reduceMul, Int.reduceSub, Nat.reduceSucc, Nat.reduceGT, Nat.reducePow, Int.reducePow, reduceCtorEq, ↓reduceIte]
      refine exq_call (rpairs49_c x.apart l 5 x.apart_c c (by omega) hl) ?_
      simp (disch := omega) only [go_sem, Nat.reduceAdd, Nat.reduceMul, Nat.reduceSub, Nat.reduceLeDiff, Nat.reduceLT, Nat.reduceEqDiff, Nat.reduceBEq, Nat.reduceBNe, Int.reduceNeg, Int.reduceToNat, Int.reduceLT, Int.reduceLE, Int.reduceEq, Int.reduceAdd, Int.reduceMul, Int.reduceSub, Nat.reduceSucc, Nat.reduceGT, Nat.reducePow, Int.reducePow, reduceCtorEq, ↓reduceIte]
      refine exq_call (rpairs49_c x.before l 6 x.before_c c (by omega) hl) ?_
      simp (disch := omega) only [go_sem, Nat.reduceAdd, Nat.reduceMul, Nat.reduceSub, Nat.reduceLeDiff, Nat.reduceLT, Nat.reduceEqDiff, Nat.reduceBEq, Nat.reduceBNe, Int.reduceNeg, Int.reduceToNat, Int.reduceLT, Int.reduceLE, Int.reduceEq, Int.reduceAdd, Int.reduceMul, Int.reduceSub, Nat.reduceSucc, Nat.reduceGT, Nat.reducePow, Int.reducePow, reduceCtorEq, ↓reduceIte]
      refine awp_weak (Weak.nilC (o := 2) (j := 3) 16 rfl rfl (by simp)) ?_
      refine awp_sound [13, 17] _ _ _ _ ?_
      simp (disch := omega) only [List.set_cons_succ, List.set_cons_zero, List.cons_append, List.nil_append, go_sem, Nat.reduceAdd, Nat.reduceMul, Nat.reduceSub, Nat.reduceLeDiff, Nat.reduceLT, Nat.reduceEqDiff, Nat.reduceBEq, Nat.reduceBNe, Int.reduceNeg, Int.reduceToNat, Int.reduceLT, Int.reduceLE, Int.reduceEq, Int.reduceAdd, Int.reduceMul, Int.reduceSub, Nat.reduceSucc, Nat.reduceGT, Nat.reducePow, Int.reducePow, reduceCtorEq, ↓reduceIte]
      obtain ⟨os, hos⟩ : ∃ os, os = ordsL x.orders l := ⟨_, rfl⟩
      have hol : os.length = x.orders.length := by rw [hos, ordsL_len]
      refine awp_forC [] [1, 2, 4, 7] (fun q : Nat × List Ord => [(8, .p (.int .i64 q.1))]) (fun q => [instO x, instO zeroI, .cells [.p (.list x.net.places_c (x.net.places.map eS)), .p (.list x.net.arcs_c (x.net.arcs.map eArc)), .p (.list true []), .sl 3 0 q.2.length q.2.length, .p (.list false ((keepP x.apart l 5 x.apart.length).map eP)), .p (.list false ((keepP x.before l 6 x.before.length).map eP))], .elems 16 (q.2.map eOrd)]) (fun q => q.1 ≤ x.orders.length ∧ q.2 = os.take q.1) (fun q => x.orders.length - q.1) (0, []) ⟨by simp, by simp⟩ (Weak.mk ?_) ?_
      · simp (disch := omega) only [instO, zeroI, List.map_nil, go_sem, Nat.reduceAdd, Nat.reduceMul, Nat.reduceSub, Nat.reduceLeDiff, Nat.reduceLT, Nat.reduceEqDiff, Nat.reduceBEq, Nat.reduceBNe, Int.reduceNeg, Int.reduceToNat, Int.reduceLT, Int.reduceLE, Int.reduceEq, Int.reduceAdd, Int.reduceMul, Int.reduceSub, Nat.reduceSucc, Nat.reduceGT, Nat.reducePow, Int.reducePow, reduceCtorEq, ↓reduceIte]
      · rintro ⟨k, m⟩ ⟨hk, hm⟩
        simp only at hk hm
        have hml : m.length = k := by rw [hm, List.length_take]; omega
        simp (disch := omega) only [instO, zeroI, List.map_nil, go_sem, Nat.reduceAdd, Nat.reduceMul, Nat.reduceSub, Nat.reduceLeDiff, Nat.reduceLT, Nat.reduceEqDiff, Nat.reduceBEq, Nat.reduceBNe, Int.reduceNeg, Int.reduceToNat, Int.reduceLT, Int.reduceLE, Int.reduceEq, Int.reduceAdd, Int.reduceMul, Int.reduceSub, Nat.reduceSucc, Nat.reduceGT, Nat.reducePow, Int.reducePow, reduceCtorEq, ↓reduceIte]
        refine acond_b (fun h => ?_) (fun h => ?_) <;> (try simp only [decide_eq_true_eq, decide_eq_false_iff_not] at h) <;> simp (disch := omega) only [Sh.out h, go_sem, Nat.reduceAdd, Nat.reduceMul, Nat.reduceSub, Nat.reduceLeDiff, Nat.reduceLT, Nat.reduceEqDiff, Nat.reduceBEq, Nat.reduceBNe, Int.reduceNeg, Int.reduceToNat, Int.reduceLT, Int.reduceLE, Int.reduceEq, Int.reduceAdd, Int.reduceMul, Int.reduceSub, Nat.reduceSucc, Nat.reduceGT, Nat.reducePow, Int.reducePow, reduceCtorEq, ↓reduceIte]
        · have hk2 : k < x.orders.length := by omega
          have htk : os.take (k + 1) = os.take k ++ [ordL (nth x.orders k) k l] := by
            rw [List.take_succ_eq_append_getElem (by omega)]
            congr 2
            rw [← nth_get (by omega), hos, ordsL_nth hk2]
          refine awp_drawnS 11 mixed (by kernel_rfl) (by kernel_rfl) ?_
          simp (disch := omega) only [go_sem, Nat.reduceAdd, Nat.reduceMul, Nat.reduceSub, Nat.reduceLeDiff, Nat.reduceLT, Nat.reduceEqDiff, Nat.reduceBEq, Nat.reduceBNe, Int.reduceNeg, Int.reduceToNat, Int.reduceLT, Int.reduceLE, Int.reduceEq, Int.reduceAdd, Int.reduceMul, Int.reduceSub, Nat.reduceSucc, Nat.reduceGT, Nat.reducePow, Int.reducePow, reduceCtorEq, ↓reduceIte]
          refine exq_call (rorderly49_c (nth x.orders k) k l c hl) ?_
          simp (disch := omega) only [go_sem, Nat.reduceAdd, Nat.reduceMul, Nat.reduceSub, Nat.reduceLeDiff, Nat.reduceLT, Nat.reduceEqDiff, Nat.reduceBEq, Nat.reduceBNe, Int.reduceNeg, Int.reduceToNat, Int.reduceLT, Int.reduceLE, Int.reduceEq, Int.reduceAdd, Int.reduceMul, Int.reduceSub, Nat.reduceSucc, Nat.reduceGT, Nat.reducePow, Int.reducePow, reduceCtorEq, ↓reduceIte]
          exact ⟨(k + 1, m ++ [ordL (nth x.orders k) k l]), ⟨by simp only; omega, by simp only; rw [htk, hm]⟩, by simp only; omega, Weak.mk (by simp (disch := omega) only [instO, zeroI, List.map_nil, go_sem, Nat.reduceAdd, Nat.reduceMul, Nat.reduceSub, Nat.reduceLeDiff, Nat.reduceLT, Nat.reduceEqDiff, Nat.reduceBEq, Nat.reduceBNe, Int.reduceNeg, Int.reduceToNat, Int.reduceLT, Int.reduceLE, Int.reduceEq, Int.reduceAdd, Int.reduceMul, Int.reduceSub, Nat.reduceSucc, Nat.reduceGT, Nat.reducePow, Int.reducePow, reduceCtorEq, ↓reduceIte])⟩
        · have hkl : k = x.orders.length := by omega
          have hmo : m = os := by rw [hm, hkl, ← hol, List.take_length]
          subst hmo
          clear hm hk h
          refine awp_weak (Weak.nilC (o := 2) (j := 2) 14 rfl rfl (by simp)) ?_
          refine awp_sound [17] _ _ _ _ ?_
          simp (disch := omega) only [List.set_cons_succ, List.set_cons_zero, List.cons_append, List.nil_append, go_sem, Nat.reduceAdd, Nat.reduceMul, Nat.reduceSub, Nat.reduceLeDiff, Nat.reduceLT, Nat.reduceEqDiff, Nat.reduceBEq, Nat.reduceBNe, Int.reduceNeg, Int.reduceToNat, Int.reduceLT, Int.reduceLE, Int.reduceEq, Int.reduceAdd, Int.reduceMul, Int.reduceSub, Nat.reduceSucc, Nat.reduceGT, Nat.reducePow, Int.reducePow, reduceCtorEq, ↓reduceIte]
          obtain ⟨ts, hts⟩ : ∃ ts, ts = typsL x.types l := ⟨_, rfl⟩
          have htl : ts.length = x.types.length := by rw [hts, typsL_len]
          refine awp_forC [] [1, 2, 4, 7] (fun q : Nat × List Typ => [(9, .p (.int .i64 q.1))]) (fun q => [instO x, instO zeroI, .cells [.p (.list x.net.places_c (x.net.places.map eS)), .p (.list x.net.arcs_c (x.net.arcs.map eArc)), .sl 4 0 q.2.length q.2.length, .sl 3 0 m.length m.length, .p (.list false ((keepP x.apart l 5 x.apart.length).map eP)), .p (.list false ((keepP x.before l 6 x.before.length).map eP))], .elems 16 (m.map eOrd), .elems 14 (q.2.map eTyp)]) (fun q => q.1 ≤ x.types.length ∧ q.2 = ts.take q.1) (fun q => x.types.length - q.1) (0, []) ⟨by simp, by simp⟩ (Weak.mk ?_) ?_
          · simp (disch := omega) only [instO, zeroI, List.map_nil, go_sem, Nat.reduceAdd, Nat.reduceMul, Nat.reduceSub, Nat.reduceLeDiff, Nat.reduceLT, Nat.reduceEqDiff, Nat.reduceBEq, Nat.reduceBNe, Int.reduceNeg, Int.reduceToNat, Int.reduceLT, Int.reduceLE, Int.reduceEq, Int.reduceAdd, Int.reduceMul, Int.reduceSub, Nat.reduceSucc, Nat.reduceGT, Nat.reducePow, Int.reducePow, reduceCtorEq, ↓reduceIte]
          · rintro ⟨i, n⟩ ⟨hi, hn⟩
            simp only at hi hn
            have hnl : n.length = i := by rw [hn, List.length_take]; omega
            simp (disch := omega) only [instO, zeroI, List.map_nil, go_sem, Nat.reduceAdd, Nat.reduceMul, Nat.reduceSub, Nat.reduceLeDiff, Nat.reduceLT, Nat.reduceEqDiff, Nat.reduceBEq, Nat.reduceBNe, Int.reduceNeg, Int.reduceToNat, Int.reduceLT, Int.reduceLE, Int.reduceEq, Int.reduceAdd, Int.reduceMul, Int.reduceSub, Nat.reduceSucc, Nat.reduceGT, Nat.reducePow, Int.reducePow, reduceCtorEq, ↓reduceIte]
            refine acond_b (fun h => ?_) (fun h => ?_) <;> (try simp only [decide_eq_true_eq, decide_eq_false_iff_not] at h) <;> simp (disch := omega) only [Sh.out h, go_sem, Nat.reduceAdd, Nat.reduceMul, Nat.reduceSub, Nat.reduceLeDiff, Nat.reduceLT, Nat.reduceEqDiff, Nat.reduceBEq, Nat.reduceBNe, Int.reduceNeg, Int.reduceToNat, Int.reduceLT, Int.reduceLE, Int.reduceEq, Int.reduceAdd, Int.reduceMul, Int.reduceSub, Nat.reduceSucc, Nat.reduceGT, Nat.reducePow, Int.reducePow, reduceCtorEq, ↓reduceIte]
            · have hi2 : i < x.types.length := by omega
              have htk : ts.take (i + 1) = ts.take i ++ [typL (nth x.types i) i l] := by
                rw [List.take_succ_eq_append_getElem (by omega)]
                congr 2
                rw [← nth_get (by omega), hts, typsL_nth hi2]
              refine awp_drawnS 11 mixed (by kernel_rfl) (by kernel_rfl) ?_
              simp (disch := omega) only [go_sem, Nat.reduceAdd, Nat.reduceMul, Nat.reduceSub, Nat.reduceLeDiff, Nat.reduceLT, Nat.reduceEqDiff, Nat.reduceBEq, Nat.reduceBNe, Int.reduceNeg, Int.reduceToNat, Int.reduceLT, Int.reduceLE, Int.reduceEq, Int.reduceAdd, Int.reduceMul, Int.reduceSub, Nat.reduceSucc, Nat.reduceGT, Nat.reducePow, Int.reducePow, reduceCtorEq, ↓reduceIte]
              refine exq_call (rtypely49_c (nth x.types i) i l c hl (hcap _ (nth_mem hi2))) ?_
              simp (disch := omega) only [go_sem, Nat.reduceAdd, Nat.reduceMul, Nat.reduceSub, Nat.reduceLeDiff, Nat.reduceLT, Nat.reduceEqDiff, Nat.reduceBEq, Nat.reduceBNe, Int.reduceNeg, Int.reduceToNat, Int.reduceLT, Int.reduceLE, Int.reduceEq, Int.reduceAdd, Int.reduceMul, Int.reduceSub, Nat.reduceSucc, Nat.reduceGT, Nat.reducePow, Int.reducePow, reduceCtorEq, ↓reduceIte]
              exact ⟨(i + 1, n ++ [typL (nth x.types i) i l]), ⟨by simp only; omega, by simp only; rw [htk, hn]⟩, by simp only; omega, Weak.mk (by simp (disch := omega) only [instO, zeroI, List.map_nil, go_sem, Nat.reduceAdd, Nat.reduceMul, Nat.reduceSub, Nat.reduceLeDiff, Nat.reduceLT, Nat.reduceEqDiff, Nat.reduceBEq, Nat.reduceBNe, Int.reduceNeg, Int.reduceToNat, Int.reduceLT, Int.reduceLE, Int.reduceEq, Int.reduceAdd, Int.reduceMul, Int.reduceSub, Nat.reduceSucc, Nat.reduceGT, Nat.reducePow, Int.reducePow, reduceCtorEq, ↓reduceIte])⟩
            · have hin : i = x.types.length := by omega
              have hnt : n = ts := by rw [hn, hin, ← htl, List.take_length]
              subst hnt
              clear hn hi h
              refine awp_weak (Weak.fz (o := 3) (by rfl)) ?_
              refine awp_weak (Weak.fz (o := 4) (by rfl)) ?_
              refine awp_sound [] _ _ _ _ ?_
              simp (disch := omega) only [List.map_cons, List.map_nil, List.set_cons_succ, List.set_cons_zero, go_sem, Nat.reduceAdd, Nat.reduceMul, Nat.reduceSub, Nat.reduceLeDiff, Nat.reduceLT, Nat.reduceEqDiff, Nat.reduceBEq, Nat.reduceBNe, Int.reduceNeg, Int.reduceToNat, Int.reduceLT, Int.reduceLE, Int.reduceEq, Int.reduceAdd, Int.reduceMul, Int.reduceSub, Nat.reduceSucc, Nat.reduceGT, Nat.reducePow, Int.reducePow, reduceCtorEq, ↓reduceIte]
              exact ⟨_, _, Weak.mk (by simp (disch := omega) only [withoutI, hos, hts, go_sem, Nat.reduceAdd, Nat.reduceMul, Nat.reduceSub, Nat.reduceLeDiff, Nat.reduceLT, Nat.reduceEqDiff, Nat.reduceBEq, Nat.reduceBNe, Int.reduceNeg, Int.reduceToNat, Int.reduceLT, Int.reduceLE, Int.reduceEq, Int.reduceAdd, Int.reduceMul, Int.reduceSub, Nat.reduceSucc, Nat.reduceGT, Nat.reducePow, Int.reducePow, reduceCtorEq, ↓reduceIte]), rfl, rfl⟩
end Go.Proofs.Ytlbhefiehkmhjaa.K
