/- Declarations that the closing texts need, part 11: joined by tools/slim.py. -/
import Derived.Test.YtccjopdlbolnhaaGreatZ10
import Derived.Shelf.SlSortCmp.WholeK
set_option linter.unusedVariables false
set_option maxRecDepth 100000
namespace Go.Proofs.YtccjopdlbolnhaaGreat.K
open Go Go.Shelf Go.Proofs
def sortItems_ren : Go.Shelf.Ren := ⟨fun | 6 => 33 | 15 => 58 | 14 => 57 | 28 => 84 | 29 => 85 | 20 => 76 | 21 => 77 | 22 => 78 | 23 => 79 | 24 => 80 | 25 => 81 | 26 => 82 | 27 => 83 | 46 => 93 | 47 => 94 | 48 => 95 | 49 => 96 | 50 => 97 | 57 => 100 | n => n, fun | 22 => 31 | 24 => 55 | 25 => 88 | 3 => 3 | 39 => 119 | 0 => 0 | 53 => 152 | 55 => 154 | 4 => 4 | 46 => 145 | 45 => 144 | 50 => 149 | 5 => 5 | 9 => 9 | 66 => 165 | 70 => 169 | 76 => 174 | 77 => 175 | n => n, fun | n => n⟩
theorem sortItems : Go.Proofs.SlLaysF0.n6 Tryz.prog sortItems_ren := {
  mixed := by kernel_rfl,
  f6 := ⟨Tryz.f33.name, by decide, Tryz.func33.trans (congrArg some (by kernel_rfl))⟩,
  f14 := ⟨Tryz.f57.name, by decide, Tryz.func57.trans (congrArg some (by kernel_rfl))⟩,
  f15 := Tryz.func58.trans (congrArg some (by kernel_rfl)),
  f20 := ⟨Tryz.f76.name, by decide, Tryz.func76.trans (congrArg some (by kernel_rfl))⟩,
  f21 := ⟨Tryz.f77.name, by decide, Tryz.func77.trans (congrArg some (by kernel_rfl))⟩,
  f22 := ⟨Tryz.f78.name, by decide, Tryz.func78.trans (congrArg some (by kernel_rfl))⟩,
  f23 := ⟨Tryz.f79.name, by decide, Tryz.func79.trans (congrArg some (by kernel_rfl))⟩,
  f24 := ⟨Tryz.f80.name, by decide, Tryz.func80.trans (congrArg some (by kernel_rfl))⟩,
  f25 := ⟨Tryz.f81.name, by decide, Tryz.func81.trans (congrArg some (by kernel_rfl))⟩,
  f26 := ⟨Tryz.f82.name, by decide, Tryz.func82.trans (congrArg some (by kernel_rfl))⟩,
  f27 := ⟨Tryz.f83.name, by decide, Tryz.func83.trans (congrArg some (by kernel_rfl))⟩,
  f28 := Tryz.func84.trans (congrArg some (by kernel_rfl)),
  f29 := Tryz.func85.trans (congrArg some (by kernel_rfl)),
  f46 := ⟨Tryz.f93.name, by decide, Tryz.func93.trans (congrArg some (by kernel_rfl))⟩,
  f47 := Tryz.func94.trans (congrArg some (by kernel_rfl)),
  f48 := Tryz.func95.trans (congrArg some (by kernel_rfl)),
  f49 := ⟨Tryz.f96.name, by decide, Tryz.func96.trans (congrArg some (by kernel_rfl))⟩,
  f50 := ⟨Tryz.f97.name, by decide, Tryz.func97.trans (congrArg some (by kernel_rfl))⟩,
  f57 := ⟨Tryz.f100.name, by decide, Tryz.func100.trans (congrArg some (by kernel_rfl))⟩,
  t0 := Tryz.underlying0,
  a0 := Tryz.isAgg0,
  z0 := Tryz.sizeOf0,
  v0 := Tryz.zeroValue0,
  t3 := Tryz.underlying3,
  a3 := Tryz.isAgg3,
  z3 := Tryz.sizeOf3,
  v3 := Tryz.zeroValue3,
  t4 := Tryz.underlying4,
  a4 := Tryz.isAgg4,
  z4 := Tryz.sizeOf4,
  v4 := Tryz.zeroValue4,
  t5 := Tryz.underlying5,
  a5 := Tryz.isAgg5,
  z5 := Tryz.sizeOf5,
  v5 := Tryz.zeroValue5,
  t9 := Tryz.underlying9,
  a9 := Tryz.isAgg9,
  z9 := Tryz.sizeOf9,
  v9 := Tryz.zeroValue9,
  t22 := Tryz.underlying31,
  a22 := Tryz.isAgg31,
  z22 := Tryz.sizeOf31,
  v22 := Tryz.zeroValue31,
  t25 := Tryz.underlying88,
  a25 := Tryz.isAgg88,
  z25 := Tryz.sizeOf88,
  v25 := Tryz.zeroValue88,
  t39 := Tryz.underlying119,
  a39 := Tryz.isAgg119,
  z39 := Tryz.sizeOf119,
  v39 := Tryz.zeroValue119,
  t45 := Tryz.underlying144,
  a45 := Tryz.isAgg144,
  z45 := Tryz.sizeOf144,
  v45 := Tryz.zeroValue144,
  t46 := Tryz.underlying145,
  a46 := Tryz.isAgg145,
  z46 := Tryz.sizeOf145,
  v46 := Tryz.zeroValue145,
  t50 := Tryz.underlying149,
  a50 := Tryz.isAgg149,
  z50 := Tryz.sizeOf149,
  v50 := Tryz.zeroValue149,
  t53 := Tryz.underlying152,
  a53 := Tryz.isAgg152,
  z53 := Tryz.sizeOf152,
  v53 := Tryz.zeroValue152,
  t55 := Tryz.underlying154,
  a55 := Tryz.isAgg154,
  z55 := Tryz.sizeOf154,
  v55 := Tryz.zeroValue154,
  t66 := Tryz.underlying165,
  a66 := Tryz.isAgg165,
  z66 := Tryz.sizeOf165,
  v66 := Tryz.zeroValue165,
  t70 := Tryz.underlying169,
  a70 := Tryz.isAgg169,
  z70 := Tryz.sizeOf169,
  v70 := Tryz.zeroValue169,
  t76 := Tryz.underlying174,
  a76 := Tryz.isAgg174,
  z76 := Tryz.sizeOf174,
  v76 := Tryz.zeroValue174,
  t77 := Tryz.underlying175,
  a77 := Tryz.isAgg175,
  z77 := Tryz.sizeOf175,
  v77 := Tryz.zeroValue175 }
end Go.Proofs.YtccjopdlbolnhaaGreat.K
set_option linter.unusedVariables false
set_option linter.unusedSimpArgs false
namespace Go.AM
open Go.RowKit Go.Shelf Go.Lib Go.Sort Go.Proofs
theorem grown_of {W w' : World} {H' : List AM.Obj} {ι' : List (Option Nat)} (g : Good Noth [] [] W H' ι' w') : ∃ q os', w' = grow (W.drewN q) os' := by
  refine ⟨w'.drawn - W.drawn, w'.heap.extract W.heap.size w'.heap.size, ?_⟩
  have h1 : w'.heap = W.heap ++ w'.heap.extract W.heap.size w'.heap.size := by
    apply Array.ext_getElem?
    intro i
    by_cases hi : i < W.heap.size
    · rw [Array.getElem?_append_left hi]
      exact g.keep i hi (by simp)
    · rw [Array.getElem?_append_right (by omega)]
      have := g.size
      rw [Array.getElem?_extract]
      split
      · congr 1; omega
      · rw [Array.getElem?_eq_none (by omega)]
  have h2 := g.drawn
  have h3 := g.tape
  have h4 := g.os
  have h5 := g.output
  cases w'
  simp only [grow, World.drewN] at *
  congr 1
  omega
/-- the cells of element i, azs they stand in memory -/
def rawE (c : Array Value) (k i : Nat) : List Value := (List.range k).map fun j => c.getD (i * k + j) undef
theorem rawE_len (c k i) : (rawE c k i).length = k := by simp [rawE]
theorem rawE_get {c k i j} (h : j < k) : (rawE c k i)[j]! = c.getD (i * k + j) undef := by
  rw [List.getElem!_eq_getElem?_getD, rawE, List.getElem?_map, List.getElem?_range h]; rfl
theorem ACalls.sortFunc {P : Program} {ρ : Ren} (L : SlLaysF0.n6 P ρ) (hg : IsFun P (ρ.f 6)) (k : Nat) (aE : ∀ w, (isAgg (ρ.t 24)).run P w = .ok true w) (zE : ∀ w, (Go.sizeOf (ρ.t 24)).run P w = .ok k w)
    {β : Type} [Inhabited β] (f : β → PV) (hf : ∀ x, ∃ cs, f x = .agg cs ∧ cs.length = k ∧ cs.all (·.one) = true) (cf : β → β → Int) (hO : SWO (ltOf cf)) (g : FuncId)
    (hcmp : ∀ x y, ACalls P g [.p (f x), .p (f y)] [] fun r H' => r = .p (.int .i64 (cf x y)) ∧ H' = []) (xs : List β) (hne : xs ≠ []) (hlen : xs.length < 4611686018427387904) {H : List AM.Obj} {o : Nat} (hHo : H[o]? = some (.elems k (xs.map f))) :
    ACalls P (ρ.f 6) [.sl o 0 xs.length xs.length, .fn (.func g) [] []] H fun y H' => y = .tup [] ∧ ∃ ys : List β, ys.Perm xs ∧ ys.Pairwise (fun a b => ¬ cf b a < 0) ∧ H' = H.set o (.elems k (ys.map f)) := by
  refine ⟨hg, fun F ι w vs hr hv => ?_⟩
  obtain ⟨hv1, hv2⟩ := hv
  have h0 := hv2 0 _ rfl
  have h1 := hv2 1 _ rfl
  have hvs : vs = #[vs.getD 0 undef, vs.getD 1 undef] := by
    apply Array.ext
    · simpa using hv1
    · intro i h2 h3
      have : i = 0 ∨ i = 1 := by simp at hv1; omega
      rcases this with rfl | rfl <;> simp [Array.getD, h2]
  rw [hvs]
  generalize vs.getD 0 undef = v0 at h0 ⊢
  generalize vs.getD 1 undef = v1 at h1 ⊢
  clear hvs hv1 hv2
  cases h1 with | fn _ _ _ a e hs ht _ _ =>
  have ea : a = #[] := Array.eq_empty_of_size_eq_zero (by simpa using hs)
  have ee : e = #[] := Array.eq_empty_of_size_eq_zero (by simpa using ht)
  subst ea; subst ee
  have hn : 0 < xs.length := List.length_pos_iff.2 hne
  generalize hL : xs.length = n at h0 hn hlen
  cases h0 with
  | slNil => omega
  | slD _ _ _ _ _ hd => rw [hHo] at hd; cases hd
  | slS _ _ _ _ _ S ys hd hlt => rw [hHo] at hd; simp at hd; obtain ⟨_, rfl⟩ := hd; simp at hlt; omega
  | sl _ _ _ _ b S cap t ys c hι hH ht2 hw hcap hl hle hm =>
  rw [hHo] at hH
  simp at hH
  obtain ⟨rfl, rfl⟩ := hH
  rcases hr.elm o k (xs.map f) hHo with ⟨e1, _⟩ | ⟨b2, c2, t2, cap2, e1, e2, e3, e4, e5, e6, e7⟩
  · rw [hι] at e1; cases e1
  rw [hι] at e1
  simp at e1; subst e1
  rw [hw] at e2
  simp at e2
  obtain ⟨rfl, rfl⟩ := e2
  have hbs : b < w.heap.size := (hr.avo o b hι).2
  have hbF : ¬ F b := (hr.avo o b hι).1
  -- an index, made one that there is
  let ix : Nat → Nat := fun i => if i < n then i else 0
  have hix : ∀ i, ix i < n := fun i => by simp only [ix]; split <;> omega
  have hixe : ∀ i, i < n → ix i = i := fun i hi => by simp only [ix]; rw [if_pos hi]
  let enc : Nat → List Value := fun i => rawE c k (ix i)
  have hk : ∀ x, (enc x).length = k := fun x => rawE_len _ _ _
  -- one cell of an element
  have cell : ∀ i, i < n → ∃ cs, f (nth xs i) = .agg cs ∧ cs.length = k ∧ ∀ (j : Nat) (y : PV), cs[j]? = some y → y.one = true ∧ RP (Own F ι) w y (c.getD (i * k + j) undef) := fun i hi => by
    obtain ⟨cs, q1, q2, q3⟩ := hf (nth xs i)
    refine ⟨cs, q1, q2, fun j y hj => ⟨List.all_eq_true.1 q3 y (List.mem_of_getElem? hj), ?_⟩⟩
    refine e7 i (f (nth xs i)) j y ?_ (by rw [q1]; exact hj)
    rw [List.getElem?_map, List.getElem?_eq_getElem (by omega), nth_get (by omega)]; rfl
  have one : ∀ x, ∀ v ∈ enc x, v.oneCell' = true := fun x v hv => by
    obtain ⟨j, hj, rfl⟩ := List.mem_iff_getElem.1 hv
    have hjk : j < k := by rw [hk] at hj; exact hj
    obtain ⟨cs, q1, q2, q3⟩ := cell (ix x) (hix x)
    have hg := q3 j (cs[j]'(by omega)) (by simp)
    have e9 : (enc x)[j] = c.getD (ix x * k + j) undef := by
      have := rawE_get (c := c) (i := ix x) hjk
      rw [List.getElem!_eq_getElem?_getD, List.getElem?_eq_getElem (by rw [rawE_len]; exact hjk)] at this
      exact this
    rw [e9]
    exact hg.2.oneCell hg.1
  let d : Array Nat := Array.range n
  have hd : d.size = n := by simp [d]
  let cf' : Nat → Nat → Int := fun i j => cf (nth xs (ix i)) (nth xs (ix j))
  have hO' : SWO (ltOf cf') := ⟨fun x => hO.irrefl _, fun x y z h1 h2 => hO.trans _ _ _ h1 h2, fun x y z h1 h2 => hO.ntrans _ _ _ h1 h2⟩
  have hsz : n * k ≤ c.size := by
    rw [e3]; exact Nat.mul_le_mul_right k (by simpa [hL] using e4)
  have hcell : ∀ j, j < c.size → w.cell? ⟨b, j, none⟩ = some (c.getD j undef) := fun j hj => by
    simp [World.cell?, hw, hj]
  have hHolds : HoldsK enc k w b (0 * k) d := fun j hj => by
    have hj2 : j < n * k := by simpa [hd] using hj
    have k0 : 0 < k := by rcases Nat.eq_zero_or_pos k with h | h; · subst h; simp at hj2
                          · exact h
    rw [get_flatK enc k d j (by rw [hd]; exact hj2)]
    have hdj : j / k < n := Nat.div_lt_of_lt_mul (by rw [Nat.mul_comm]; exact hj2)
    have hde : d[j / k]! = j / k := by simp [d, hdj]
    rw [hde]
    have e9 : (enc (j / k))[j % k]! = c.getD j undef := by
      show (rawE c k (ix (j / k)))[j % k]! = _
      rw [hixe _ hdj, rawE_get (Nat.mod_lt _ k0), Nat.div_add_mod']
    rw [e9, Nat.zero_mul, Nat.zero_add]
    exact ⟨hcell j (by omega), by simp [World.frozen?, hw]⟩
  have hcmp' : CmpLays P g #[] enc k cf' b (0 * k) d.size w := fun m os dk hdk x y => by
    generalize hW : sortWorldK enc k w b (0 * k) m dk os = W
    have hKeep : Keeps (Own F ι) w Noth W := fun b' hb' hs' => by
      have hne : b' ≠ b := fun e => hb' (.inr (e ▸ List.mem_of_getElem? hι))
      refine ⟨fun h => h, ?_, ?_⟩
      · rw [← hW]; simp [sortWorldK, grow, putRowK, putRow, mapBlock, ahead]; omega
      · rw [← hW]
        simp only [sortWorldK, grow, putRowK, putRow, mapBlock, ahead]
        rw [Array.getElem?_append_left (by simpa using hs'), Array.getElem?_modify, if_neg (fun e => hne e.symm)]
        rfl
    have arg : ∀ i, RV Noth [] [] W (.p (f (nth xs (ix i)))) (.agg (enc i).toArray) := fun i => by
      obtain ⟨cs, q1, q2, q3⟩ := cell (ix i) (hix i)
      refine .p _ _ ?_
      rw [q1]
      refine (RP.agg cs (enc i).toArray (by simp [hk, q2]) fun j y hj => ?_ : RP Noth W _ _).weaker fun b hb => by
        rcases hb with hb | hb
        · exact hb
        · simp at hb
      have hjk : j < k := by rw [← q2]; exact (List.getElem?_eq_some_iff.1 hj).1
      have e9 : (enc i).toArray.getD j undef = c.getD (ix i * k + j) undef := by
        have := rawE_get (c := c) (i := ix i) hjk
        rw [List.getElem!_eq_getElem?_getD, List.getElem?_eq_getElem (by rw [rawE_len]; exact hjk)] at this
        simp only [Array.getD_eq_getD_getElem?, List.getElem?_toArray]
        rw [List.getElem?_eq_getElem (by rw [hk]; exact hjk), Option.getD_some]
        rw [Option.getD_some] at this
        simpa only [Array.getD_eq_getD_getElem?] using this
      rw [e9]
      exact (q3 j y hj).2.ext hKeep
    refine ((hcmp (nth xs (ix x)) (nth xs (ix y))).2 Noth [] W _ (rel_noth W) ⟨rfl, fun j q hj => ?_⟩).mono ?_
    · cases j with
      | zero => simp at hj; subst hj; exact arg x
      | succ j => cases j with
        | zero => simp at hj; subst hj; exact arg y
        | succ j => simp at hj
    · rintro e' w' ⟨x', H', ι', v, rfl, ⟨rfl, rfl⟩, gd, rv⟩
      cases rv with | p _ _ rp =>
      rw [rp.int_inv]
      exact ⟨rfl, grown_of gd⟩
  have eg := (hcmp default default).1
  have main := AnyQ.slices_SortFunc L k aE zE enc hk one cf' hO' g #[] b (0 * k) cap d w (fun args w => eg args w) hcmp' hHolds hbs (by rw [hd]; exact hlen)
  rw [hd] at main
  refine main.mono ?_
  rintro e' w' ⟨rfl, d', m, os, hp, hso, rfl⟩
  obtain ⟨p1, _, p3⟩ := hp
  rw [hd] at p1
  have hperm : d'.toList.Perm (List.range n) := by
    have e8 : (d'.extract 0 n).toList = d'.toList := by rw [← p1]; simp
    have e9 : (d.extract 0 n).toList = List.range n := by
      have : d.extract 0 n = d := by rw [← hd]; simp
      rw [this]; simp [d]
    rw [e8, e9] at p3; exact p3
  have hlt : ∀ i ∈ d'.toList, i < n := fun i hi => by simpa using hperm.mem_iff.1 hi
  have hlt2 : ∀ i, i < n → d'.toList[i]?.isSome = true := fun i hi => by simp [p1, hi]
  have hget : ∀ i (hi : i < n), d'[i]! = d'.toList[i]'(by simp [p1, hi]) := fun i hi => by
    rw [getElem!_pos d' i (by omega)]; simp
  let ys : List β := d'.toList.map (nth xs)
  have hyl : ys.length = n := by simp [ys, p1]
  have hys : ∀ i (hi : i < n), ys[i]'(by omega) = nth xs d'[i]! := fun i hi => by
    simp only [ys, List.getElem_map]; rw [hget i hi]
  have hdl : ∀ i, i < n → d'[i]! < n := fun i hi => by rw [hget i hi]; exact hlt _ (List.getElem_mem _)
  have yperm : ys.Perm xs := by
    have h9 : (List.range n).map (nth xs) = xs := by
      refine List.ext_getElem (by simp [hL]) fun i h1 h2 => ?_
      simp only [List.getElem_map, List.getElem_range]
      rw [nth_get h2]
    have := hperm.map (nth xs)
    rw [h9] at this; exact this
  have ysort : ys.Pairwise fun a b => ¬ cf b a < 0 := by
    rw [List.pairwise_iff_getElem]
    intro i j hi hj hij
    rw [hys i (by omega), hys j (by omega)]
    have h9 := hso i j (Nat.zero_le _) hij (by omega)
    simp only [ltOf, cf', decide_eq_false_iff_not] at h9
    rwa [hixe _ (hdl j (by omega)), hixe _ (hdl i (by omega))] at h9
  let c' : Array Value := putCells id (0 * k) (flatK enc k d') c
  have hcs : c'.size = c.size := by simp [c', putCells]
  have hat : (sortWorldK enc k w b (0 * k) m d' os).heap[b]? = some (.cells c' t (0, 0)) := by
    simp only [sortWorldK, grow, putRowK, putRow, mapBlock, ahead]
    rw [Array.getElem?_append_left (by simpa using hbs), Array.getElem?_modify, if_pos rfl]
    show Option.map _ w.heap[b]? = _
    rw [hw]; rfl
  have hoth : ∀ q, q < w.heap.size → q ≠ b → (sortWorldK enc k w b (0 * k) m d' os).heap[q]? = w.heap[q]? := fun q hq hne => by
    simp only [sortWorldK, grow, putRowK, putRow, mapBlock, ahead]
    rw [Array.getElem?_append_left (by simpa using hq), Array.getElem?_modify, if_neg (fun e => hne e.symm)]
    rfl
  have hc' : ∀ i j, i < n → j < k → c'.getD (i * k + j) undef = c.getD (d'[i]! * k + j) undef := fun i j hi hj => by
    have hb1 : i * k + j < n * k := by
      have := Nat.mul_le_mul_right k (show i + 1 ≤ n from hi)
      rw [Nat.add_mul, Nat.one_mul] at this; omega
    have e8 : (flatK enc k d')[i * k + j]! = c.getD (d'[i]! * k + j) undef := by
      rw [get_flatK enc k d' _ (by rw [p1]; exact hb1)]
      have q1 : (i * k + j) / k = i := by rw [Nat.mul_comm, Nat.mul_add_div (by omega), Nat.div_eq_of_lt hj]; omega
      have q2 : (i * k + j) % k = j := by rw [Nat.mul_comm, Nat.mul_add_mod, Nat.mod_eq_of_lt hj]
      rw [q1, q2]
      show (rawE c k (ix d'[i]!))[j]! = _
      rw [rawE_get hj, hixe _ (hdl i hi)]
    have e9 : c'[i * k + j]? = some ((flatK enc k d')[i * k + j]!) := by
      simp only [c', putCells, Array.getElem?_mapIdx]
      rw [Array.getElem?_eq_getElem (by omega)]
      simp only [Option.map_some, Nat.zero_mul, Nat.zero_le, true_and, Nat.zero_add, size_flatK, p1, hb1, if_true, Nat.sub_zero, id]
    rw [Array.getD_eq_getD_getElem?, e9, Option.getD_some, e8]
  have good := good_setElems (w' := sortWorldK enc k w b (0 * k) m d' os) (c := c') (t := t) (xs' := ys.map f) (cap := cap2) (b' := b) hr (o := o) (S := k) (xs := xs.map f) hHo rfl rfl rfl (by simp [sortWorldK, grow, putRowK, putRow, mapBlock, ahead])
    (fun c0 t0 h => by rw [hw] at h; simp at h; obtain ⟨rfl, rfl⟩ := h; exact ⟨rfl, hcs⟩) (by simp [sortWorldK, grow, putRowK, putRow, mapBlock, ahead]) hat hoth (.inl ⟨hι, .inl ⟨by simp [hyl, hL], fun c0 t0 h => by rw [hw] at h; simp at h; obtain ⟨rfl, rfl⟩ := h; exact ⟨rfl, hcs⟩⟩⟩)
    (by rw [hcs]; exact e3) (by simp only [List.length_map, hyl]; simpa [hL] using e4) e5
    (fun i x hi => by
      rw [List.getElem?_map, Option.map_eq_some_iff] at hi
      obtain ⟨y, _, rfl⟩ := hi
      obtain ⟨cs, q1, q2, _⟩ := hf y
      rw [q1]; exact q2)
    (fun i x j y hi hj => by
      rw [List.getElem?_map, Option.map_eq_some_iff] at hi
      obtain ⟨z, hz, rfl⟩ := hi
      have hin : i < n := by have := (List.getElem?_eq_some_iff.1 hz).1; omega
      have e8 : z = nth xs d'[i]! := by
        obtain ⟨h9, h10⟩ := List.getElem?_eq_some_iff.1 hz
        rw [← h10]; exact hys i hin
      obtain ⟨cs, q1, q2, q3⟩ := cell _ (hdl i hin)
      rw [e8, q1] at hj
      have hjk : j < k := by rw [← q2]; exact (List.getElem?_eq_some_iff.1 hj).1
      rw [hc' i j hin hjk]
      exact (q3 j y hj).2)
  have hset : ι.set o (some b) = ι := by
    refine List.ext_getElem? fun i => ?_
    rw [List.getElem?_set]
    split
    · rename_i e; subst e
      have := (List.getElem?_eq_some_iff.1 hι).1
      rw [if_pos this, hι]
    · rfl
  rw [hset] at good
  exact ⟨.tup [], _, ι, .tuple #[], rfl, ⟨rfl, ys, yperm, ysort, rfl⟩, good, .tup [] #[] rfl (fun j c hj => by simp at hj)⟩
end Go.AM
set_option linter.unusedVariables false
set_option linter.unusedSimpArgs false
namespace Go.Proofs.YtccjopdlbolnhaaGreat.K
open Go Go.AM Go.Proofs
set_option maxRecDepth 8000
set_option maxHeartbeats 8000000
deriving instance DecidableEq for Itm
theorem itm_eq {v w : Itm} : v = w ↔ v.kind = w.kind ∧ v.a = w.a := by cases v; cases w; simp
def cmpT (a b : Itm) : Int := if cmpI a.kind b.kind = 0 then cmpI a.a b.a else cmpI a.kind b.kind
theorem compare49_c (a b : Itm) : ACalls Tryz.prog 34 [.p (eItm a), .p (eItm b)] [] fun x H' => x = .p (.int .i64 (cmpT a b)) ∧ H' = [] := by
  refine acalls_pure (fn := Tryz.f34) Tryz.func34 rfl isF34 ?_
  simp (disch := omega) only [Tryz.f34, go_sem, seval, reduceCtorEq, ↓reduceIte]
  refine awp_drawnA mixed (by kernel_rfl) (by kernel_rfl) ?_
  simp (disch := omega) only [go_sem, seval, reduceCtorEq, ↓reduceIte]
  refine exq_call (cmp_c a.kind b.kind) ?_
  simp (disch := omega) only [go_sem, seval, reduceCtorEq, ↓reduceIte]
  refine exq_call (cmp_c a.a b.a) ?_
  simp (disch := omega) only [go_sem, seval, reduceCtorEq, ↓reduceIte]
  refine exq_call (or_c [cmpI a.kind b.kind, cmpI a.a b.a] false (by simp)) ?_
  simp (disch := omega) only [go_sem, seval, reduceCtorEq, ↓reduceIte]
  rw [orI_two, cmpT]
theorem less49_c (a b : Itm) : ACalls Tryz.prog 13 [.p (eItm a), .p (eItm b)] [] fun x H' => x = .p (.bool (decide (cmpT a b < 0))) ∧ H' = [] := by
  refine acalls_pure (fn := Tryz.f13) Tryz.func13 rfl isF13 ?_
  simp (disch := omega) only [Tryz.f13, go_sem, seval, reduceCtorEq, ↓reduceIte]
  refine (compare49_c a b).use ?_
  simp (disch := omega) only [go_sem, seval, reduceCtorEq, ↓reduceIte]
/-- an order that is cancelled, or is none -/
def offB (x : Inst) (o : Int) : Bool := decide (o < 0) || decide ((x.orders.length : Int) ≤ o) || (nth x.orders o.toNat).off
theorem off49_c (x : Inst) (o : Int) (hl : x.orders.length ≤ 1048576) : ACalls Tryz.prog 32 [.p (eInst x), .p (.int .i64 o)] [] fun y H' => y = .p (.bool (offB x o)) ∧ H' = [] := by
  refine acalls_pure (fn := Tryz.f32) Tryz.func32 rfl isF32 ?_
  simp (disch := omega) only [Tryz.f32, go_sem, seval, reduceCtorEq, ↓reduceIte]
  refine aguard_f (fun h => ?_) (fun h => ?_) <;> (try simp only [decide_eq_true_eq, decide_eq_false_iff_not] at h) <;> simp (disch := omega) only [Sh.out h, go_sem, seval, reduceCtorEq, ↓reduceIte]
  · simp [offB, h]
  · refine aguard_f (fun h2 => ?_) (fun h2 => ?_) <;> (try simp only [decide_eq_true_eq, decide_eq_false_iff_not] at h2) <;> simp (disch := omega) only [Sh.out h2, go_sem, seval, reduceCtorEq, ↓reduceIte]
    · simp [offB, h2]
    · simp [offB, h, h2]
def itO (x : Inst) (i : Nat) : List Itm := if (nth x.orders i).off = true then [] else
  (if (nth x.orders i).pick.place ≠ -1 then [⟨1, i⟩] else []) ++ (if (nth x.orders i).drp.place ≠ -1 then [⟨2, i⟩] else []) ++ (if (nth x.orders i).skills ≠ 0 then [⟨4, i⟩] else []) ++ (if (nth x.orders i).penalty = -1 then [⟨10, i⟩] else [])
def itOs (x : Inst) (k : Nat) : List Itm := (List.range k).flatMap (itO x)
theorem itOs_succ (x k) : itOs x (k + 1) = itOs x k ++ itO x k := by simp [itOs, List.range_succ]
theorem itO_len (x i) : (itO x i).length ≤ 4 := by
  unfold itO
  split
  · simp
  · simp only [List.length_append]
    split <;> split <;> split <;> split <;> simp
theorem itOs_len (x) : ∀ k, (itOs x k).length ≤ 4 * k
  | 0 => by simp [itOs]
  | k + 1 => by
    have h1 := itOs_len x k
    have h2 := itO_len x k
    rw [itOs_succ, List.length_append]; omega
def hO (x : Inst) (m : List Itm) (i : Nat) : List AM.Obj := [instO x, .cells [.sl 2 0 m.length m.length], .elems 2 (m.map eItm), .cells [.p (.int .i64 (i : Nat))]]
theorem add49_c (x : Inst) (m : List Itm) (i : Nat) (has : Bool) (kind : Int) (hm : m.length ≤ 1048576) : ACalls Tryz.prog 56 [.p (.bool has), .p (.int .i64 kind), .ptr 1 0, .ptr 3 0] (hO x m i) fun y H' => y = .tup [] ∧ H' = hO x (if has = true then m ++ [⟨kind, i⟩] else m) i := by
  refine acalls_weak [] (fn := Tryz.f56) Tryz.func56 rfl isF56 ?_
  cases has with
  | true =>
    simp (disch := omega) only [Tryz.f56, hO, instO, go_sem, seval, reduceCtorEq, ↓reduceIte]
    exact ⟨.tup [], hO x (m ++ [⟨kind, i⟩]) i, Weak.mk (by simp (disch := omega) only [hO, instO, go_sem, seval, reduceCtorEq, ↓reduceIte]), rfl, by simp [hO, instO, eItm]⟩
  | false =>
    simp (disch := omega) only [Tryz.f56, hO, instO, go_sem, seval, reduceCtorEq, ↓reduceIte]
    exact ⟨.tup [], hO x m i, Weak.mk (by simp (disch := omega) only [hO, instO, go_sem, seval, reduceCtorEq, ↓reduceIte]), rfl, by simp [hO, instO]⟩
theorem ofOrders_own (x : Inst) (hl : x.orders.length ≤ 1000) : ACalls Tryz.prog 31 [.p (eInst x)] [] fun y H' => ∃ m : List Itm, m = itOs x x.orders.length ∧ y = .sl 0 0 m.length m.length ∧ H' = [.elems 2 (m.map eItm)] := by
  refine acalls_freshE [2] (fn := Tryz.f31) Tryz.func31 rfl isF31 ?_
  simp (disch := omega) only [Tryz.f31, go_sem, seval, reduceCtorEq, ↓reduceIte]
  refine awp_weak (Weak.nilC (o := 1) (j := 0) 2 rfl rfl (by simp)) ?_
  refine awp_sound [] _ _ _ _ ?_
  simp (disch := omega) only [List.set_cons_succ, List.set_cons_zero, List.cons_append, List.nil_append, go_sem, seval, reduceCtorEq, ↓reduceIte]
  refine awp_for [3, 8, 9] (fun q : Nat × List Itm => [(10, .p (.int .i64 q.1))]) (fun q => [instO x, .cells [.sl 2 0 q.2.length q.2.length], .elems 2 (q.2.map eItm)]) (fun q => q.1 ≤ x.orders.length ∧ q.2 = itOs x q.1) (fun q => x.orders.length - q.1) (0, []) ⟨by simp, by simp [itOs]⟩ (Weak.mk ?_) ?_
  · simp (disch := omega) only [instO, go_sem, seval, reduceCtorEq, ↓reduceIte]
  · rintro ⟨i, m⟩ ⟨hi, hm⟩
    simp only at hi hm
    have hml : m.length ≤ 4 * i := by rw [hm]; exact itOs_len x i
    have hsc := itOs_succ x i
    simp (disch := omega) only [instO, go_sem, seval, reduceCtorEq, ↓reduceIte]
    refine acond_b (fun h => ?_) (fun h => ?_) <;> (try simp only [decide_eq_true_eq, decide_eq_false_iff_not] at h) <;> simp (disch := omega) only [Sh.out h, go_sem, seval, reduceCtorEq, ↓reduceIte]
    · have hi2 : i < x.orders.length := by omega
      refine acond_b (fun h2 => ?_) (fun h2 => ?_) <;> (try simp only [decide_eq_true_eq, decide_eq_false_iff_not] at h2) <;> simp (disch := omega) only [Sh.out h2, go_sem, seval, reduceCtorEq, ↓reduceIte]
      · exact ⟨(i + 1, m), ⟨by simp only; omega, by simp only [hsc, itO, h2, if_true, hm, List.append_nil]⟩, by simp only; omega, Weak.mk (by simp (disch := omega) only [instO, go_sem, seval, reduceCtorEq, ↓reduceIte])⟩
      · have c1 := add49_c x m i (decide ((nth x.orders i).pick.place ≠ -1)) 1 (by omega)
        have ifl : ∀ {c : Prop} [Decidable c] (m : List Itm) (v : Itm), (if decide c = true then m ++ [v] else m) = m ++ (if c then [v] else []) := fun {c} _ m v => by by_cases h : c <;> simp [h]
        have ifn : ∀ {c : Prop} [Decidable c] (v : Itm), (if c then [v] else []).length ≤ 1 := fun {c} _ v => by split <;> simp
        rw [ifl] at c1
        refine c1.useP (L := [_]) (by rfl) ?_ (by rfl) (by rfl)
        have n1 := ifn (c := (nth x.orders i).pick.place ≠ -1) ⟨1, i⟩
        have n2 := ifn (c := (nth x.orders i).drp.place ≠ -1) ⟨2, i⟩
        have n3 := ifn (c := (nth x.orders i).skills ≠ 0) ⟨4, i⟩
        have n4 := ifn (c := (nth x.orders i).penalty = -1) ⟨10, i⟩
        have hit : itO x i = (if (nth x.orders i).pick.place ≠ -1 then [⟨1, i⟩] else []) ++ (if (nth x.orders i).drp.place ≠ -1 then [⟨2, i⟩] else []) ++ (if (nth x.orders i).skills ≠ 0 then [⟨4, i⟩] else []) ++ (if (nth x.orders i).penalty = -1 then [⟨10, i⟩] else []) := by rw [itO, if_neg (by rw [h2]; simp)]
        generalize hA : (if (nth x.orders i).pick.place ≠ -1 then [(⟨1, i⟩ : Itm)] else []) = A at hit n1 c1 ⊢
        have c2 := add49_c x (m ++ A) i (decide ((nth x.orders i).drp.place ≠ -1)) 2 (by simp; omega)
        rw [ifl] at c2
        generalize (if (nth x.orders i).drp.place ≠ -1 then [(⟨2, i⟩ : Itm)] else []) = B at hit n2 c2
        have c3 := add49_c x (m ++ A ++ B) i (decide ((nth x.orders i).skills ≠ 0)) 4 (by simp; omega)
        rw [ifl] at c3
        generalize (if (nth x.orders i).skills ≠ 0 then [(⟨4, i⟩ : Itm)] else []) = C at hit n3 c3
        have c4 := add49_c x (m ++ A ++ B ++ C) i (decide ((nth x.orders i).penalty = -1)) 10 (by simp; omega)
        rw [ifl] at c4
        generalize (if (nth x.orders i).penalty = -1 then [(⟨10, i⟩ : Itm)] else []) = D at hit n4 c4
        generalize hm1 : m ++ A = m1 at c2 c3 c4 ⊢
        generalize hm2 : m1 ++ B = m2 at c2 c3 c4 ⊢
        generalize hm3 : m2 ++ C = m3 at c3 c4 ⊢
        generalize hm4 : m3 ++ D = m4 at c4
        simp (disch := omega) only [hO, instO, ordO, go_sem, seval, reduceCtorEq, ↓reduceIte]
        refine c2.useP (L := [_]) (by rfl) ?_ (by rfl) (by rfl)
        simp (disch := omega) only [hO, instO, ordO, go_sem, seval, reduceCtorEq, ↓reduceIte]
        refine c3.useP (L := [_]) (by rfl) ?_ (by rfl) (by rfl)
        simp (disch := omega) only [hO, instO, ordO, go_sem, seval, reduceCtorEq, ↓reduceIte]
        refine c4.useP (L := [_]) (by rfl) ?_ (by rfl) (by rfl)
        simp (disch := omega) only [hO, instO, ordO, go_sem, seval, reduceCtorEq, ↓reduceIte]
        refine ⟨(i + 1, m4), ⟨by simp only; omega, ?_⟩, by simp only; omega, Weak.mk (by simp (disch := omega) only [hO, instO, ordO, go_sem, seval, reduceCtorEq, ↓reduceIte])⟩
        simp only [hsc, hit, ← hm4, ← hm3, ← hm2, ← hm1, hm, List.append_assoc]
    · have hin : i = x.orders.length := by omega
      subst hin
      exact ⟨m, hm, 2, by simp (disch := omega) only [instO, go_sem, seval, reduceCtorEq, ↓reduceIte]⟩
end Go.Proofs.YtccjopdlbolnhaaGreat.K
set_option linter.unusedVariables false
set_option linter.unusedSimpArgs false
namespace Go.Proofs.YtccjopdlbolnhaaGreat.K
open Go Go.AM Go.Proofs
set_option maxRecDepth 8000
set_option maxHeartbeats 8000000
def itT (k : Nat) : List Itm := (List.range k).flatMap fun (i : Nat) => [⟨3, i⟩, ⟨7, i⟩, ⟨8, i⟩, ⟨9, i⟩]
def itA1 (x : Inst) (i : Nat) : List Itm := if (!offB x (nth x.apart i).1 && !offB x (nth x.apart i).2) = true then [⟨5, i⟩] else []
def itA (x : Inst) (k : Nat) : List Itm := (List.range k).flatMap (itA1 x)
def itB1 (x : Inst) (i : Nat) : List Itm := if (!offB x (nth x.before i).2) = true then [⟨6, i⟩] else []
def itB (x : Inst) (k : Nat) : List Itm := (List.range k).flatMap (itB1 x)
def preI (x : Inst) : List Itm := itOs x x.orders.length ++ itT x.types.length ++ itA x x.apart.length ++ itB x x.before.length
theorem itT_succ (k) : itT (k + 1) = itT k ++ [⟨3, k⟩, ⟨7, k⟩, ⟨8, k⟩, ⟨9, k⟩] := by simp [itT, List.range_succ]
theorem itA_succ (x k) : itA x (k + 1) = itA x k ++ itA1 x k := by simp [itA, List.range_succ]
theorem itB_succ (x k) : itB x (k + 1) = itB x k ++ itB1 x k := by simp [itB, List.range_succ]
theorem itT_len : ∀ k, (itT k).length = 4 * k
  | 0 => by simp [itT]
  | k + 1 => by rw [itT_succ, List.length_append, itT_len k]; simp; omega
theorem itA_len (x) : ∀ k, (itA x k).length ≤ k
  | 0 => by simp [itA]
  | k + 1 => by
    have h1 := itA_len x k
    have h2 : (itA1 x k).length ≤ 1 := by unfold itA1; split <;> simp
    rw [itA_succ, List.length_append]; omega
theorem itB_len (x) : ∀ k, (itB x k).length ≤ k
  | 0 => by simp [itB]
  | k + 1 => by
    have h1 := itB_len x k
    have h2 : (itB1 x k).length ≤ 1 := by unfold itB1; split <;> simp
    rw [itB_succ, List.length_append]; omega
theorem cmpT_lt {a b : Itm} : cmpT a b < 0 ↔ a.kind < b.kind ∨ (a.kind = b.kind ∧ a.a < b.a) := by
  unfold cmpT
  split
  · rename_i h; rw [cmpI_zero] at h; rw [cmpI_lt]; omega
  · rename_i h; rw [cmpI_zero] at h; rw [cmpI_lt]; omega
theorem cmpT_swo : Go.Sort.SWO (ltOf cmpT) where
  irrefl x := by simp only [ltOf, decide_eq_false_iff_not, cmpT_lt]; omega
  trans x y z h1 h2 := by simp only [ltOf, decide_eq_true_eq, cmpT_lt] at *; omega
  ntrans x y z h1 h2 := by simp only [ltOf, decide_eq_false_iff_not, cmpT_lt] at *; omega
theorem sortItems_c (xs : List Itm) (hne : xs ≠ []) (hl : xs.length ≤ 1048576) {H : List AM.Obj} {o : Nat} (hH : H[o]? = some (.elems 2 (xs.map eItm))) :
    ACalls Tryz.prog 33 [.sl o 0 xs.length xs.length, .fn (.func 34) [] []] H fun y H' => y = .tup [] ∧ ∃ ys : List Itm, ys.Perm xs ∧ ys.Pairwise (fun a b => ¬ cmpT b a < 0) ∧ H' = H.set o (.elems 2 (ys.map eItm)) :=
  ACalls.sortFunc sortItems isF33 2 Tryz.isAgg55 Tryz.sizeOf55 eItm (fun x => ⟨_, rfl, rfl, rfl⟩) cmpT cmpT_swo 34 compare49_c xs hne (by omega) hH
theorem items_own (x : Inst) (ho : x.orders.length ≤ 1000) (ht : 0 < x.types.length ∧ x.types.length ≤ 1000) (ha : x.apart.length ≤ 1000) (hb : x.before.length ≤ 1000) : ACalls Tryz.prog 11 [.p (eInst x)] [] fun y H' => ∃ m : List Itm, (m.Perm (preI x) ∧ m.Pairwise (fun a b => ¬ cmpT b a < 0)) ∧ y = .sl 0 0 m.length m.length ∧ H' = [.elems 2 (m.map eItm)] := by
  refine acalls_freshE [] (fn := Tryz.f11) Tryz.func11 rfl isF11 ?_
  simp (disch := omega) only [Tryz.f11, go_sem, seval, reduceCtorEq, ↓reduceIte]
  obtain ⟨os, hos⟩ : ∃ os, os = itOs x x.orders.length := ⟨_, rfl⟩
  have hosl := itOs_len x x.orders.length
  rw [← hos] at hosl
  refine ACalls.useF (S := 2) (n := os.length) (xs := os.map eItm) ((ofOrders_own x ho).mono fun y H' ⟨m, hm, h1, h2⟩ => by rw [hos, ← hm]; exact ⟨h1, h2⟩) ?_
  simp (disch := omega) only [go_sem, seval, reduceCtorEq, ↓reduceIte]
  obtain ⟨ks, hks⟩ : ∃ ks : List Int, ks = [3, 7, 8, 9] := ⟨_, rfl⟩
  have hkl : ks.length = 4 := by rw [hks]; rfl
  have hke : (ks.map eI).length = ks.length := by simp
  refine awp_for [1, 15] (fun q : Nat × List Itm => [(3, .sl 1 0 q.2.length q.2.length), (16, .p (.int .i64 q.1))]) (fun q => [instO x, .elems 2 (q.2.map eItm)]) (fun q => q.1 ≤ x.types.length ∧ q.2 = os ++ itT q.1) (fun q => x.types.length - q.1) (0, os) ⟨by simp, by simp [itT]⟩ (Weak.mk ?_) ?_
  · simp (disch := omega) only [instO, go_sem, seval, reduceCtorEq, ↓reduceIte]
  · rintro ⟨i, m⟩ ⟨hi, hm⟩
    simp only at hi hm
    have hml : m.length = os.length + 4 * i := by rw [hm, List.length_append, itT_len]
    simp (disch := omega) only [instO, go_sem, seval, reduceCtorEq, ↓reduceIte]
    refine acond_b (fun h => ?_) (fun h => ?_) <;> (try simp only [decide_eq_true_eq, decide_eq_false_iff_not] at h) <;> simp (disch := omega) only [Sh.out h, go_sem, seval, reduceCtorEq, ↓reduceIte]
    · have hi2 : i < x.types.length := by omega
      refine awp_for [1, 4, 15, 16, 20] (fun q : Nat × List Itm => [(3, .sl 1 0 q.2.length q.2.length), (19, .sl 2 0 ks.length ks.length), (21, .p (.int .i64 q.1))]) (fun q => [instO x, .elems 2 (q.2.map eItm), .elems 1 (ks.map eI)]) (fun q => q.1 ≤ 4 ∧ q.2 = m ++ (ks.take q.1).map fun c => (⟨c, i⟩ : Itm)) (fun q => 4 - q.1) (0, m) ⟨by simp, by simp⟩ (Weak.mk ?_) ?_
      · rw [hks]
        simp (disch := omega) only [instO, List.map_cons, List.map_nil, List.length_cons, List.length_nil, go_sem, seval, reduceCtorEq, ↓reduceIte]
      · rintro ⟨k, m2⟩ ⟨hk, hm2⟩
        simp only at hk hm2
        have hm2l : m2.length = m.length + k := by rw [hm2]; simp; omega
        simp (disch := omega) only [instO, go_sem, seval, reduceCtorEq, ↓reduceIte]
        refine acond_b (fun h2 => ?_) (fun h2 => ?_) <;> (try simp only [decide_eq_true_eq, decide_eq_false_iff_not] at h2) <;> simp (disch := omega) only [Sh.out h2, elt_map, go_sem, seval, reduceCtorEq, ↓reduceIte]
        · have hk2 : k < ks.length := by omega
          have htk : ks.take (k + 1) = ks.take k ++ [nth ks k] := by rw [List.take_succ_eq_append_getElem hk2, nth_get hk2]
          simp (disch := omega) only [hk2, go_sem, seval, reduceCtorEq, ↓reduceIte]
          exact ⟨(k + 1, m2 ++ [⟨nth ks k, i⟩]), ⟨by simp only; omega, by simp only [htk, hm2, List.map_append, List.append_assoc]; rfl⟩, by simp only; omega, Weak.mk (by simp (disch := omega) only [instO, go_sem, seval, reduceCtorEq, ↓reduceIte])⟩
        · have hk4 : k = 4 := by omega
          subst hk4
          refine ⟨(i + 1, m2), ⟨by simp only; omega, ?_⟩, by simp only; omega, Weak.mk (by simp (disch := omega) only [instO, go_sem, seval, reduceCtorEq, ↓reduceIte])⟩
          simp only [itT_succ, hm2, hm, List.append_assoc]
          rw [hks]; rfl
    · have hin : i = x.types.length := by omega
      subst hin
      clear hi h
      refine awp_for [1, 34, 35] (fun q : Nat × List Itm => [(3, .sl 1 0 q.2.length q.2.length), (36, .p (.int .i64 q.1))]) (fun q => [instO x, .elems 2 (q.2.map eItm)]) (fun q => q.1 ≤ x.apart.length ∧ q.2 = m ++ itA x q.1) (fun q => x.apart.length - q.1) (0, m) ⟨by simp, by simp [itA]⟩ (Weak.mk ?_) ?_
      · simp (disch := omega) only [instO, go_sem, seval, reduceCtorEq, ↓reduceIte]
      · rintro ⟨i, m2⟩ ⟨hi, hm2⟩
        simp only at hi hm2
        have hm2l : m2.length ≤ m.length + i := by have := itA_len x i; rw [hm2, List.length_append]; omega
        simp (disch := omega) only [instO, go_sem, seval, reduceCtorEq, ↓reduceIte]
        refine acond_b (fun h => ?_) (fun h => ?_) <;> (try simp only [decide_eq_true_eq, decide_eq_false_iff_not] at h) <;> simp (disch := omega) only [Sh.out h, go_sem, seval, reduceCtorEq, ↓reduceIte]
        · have hi2 : i < x.apart.length := by omega
          refine (off49_c x (nth x.apart i).1 (by omega)).use ?_
          simp (disch := omega) only [go_sem, seval, reduceCtorEq, ↓reduceIte]
          refine aguard_t (fun h2 => ?_) (fun h2 => ?_) <;> (try simp only [decide_eq_true_eq, decide_eq_false_iff_not] at h2) <;> simp (disch := omega) only [Sh.out h2, go_sem, seval, reduceCtorEq, ↓reduceIte]
          · refine (off49_c x (nth x.apart i).2 (by omega)).use ?_
            simp (disch := omega) only [go_sem, seval, reduceCtorEq, ↓reduceIte]
            refine acond_b (fun h3 => ?_) (fun h3 => ?_) <;> (try simp only [decide_eq_true_eq, decide_eq_false_iff_not] at h3) <;> simp (disch := omega) only [Sh.out h3, go_sem, seval, reduceCtorEq, ↓reduceIte]
            · exact ⟨(i + 1, m2 ++ [⟨5, i⟩]), ⟨by simp only; omega, by simp only [itA_succ, itA1, h2, h3, Bool.and_self, if_true, hm2, List.append_assoc]⟩, by simp only; omega, Weak.mk (by simp (disch := omega) only [instO, go_sem, seval, reduceCtorEq, ↓reduceIte])⟩
            · exact ⟨(i + 1, m2), ⟨by simp only; omega, by simp [itA_succ, itA1, h2, h3, hm2]⟩, by simp only; omega, Weak.mk (by simp (disch := omega) only [instO, go_sem, seval, reduceCtorEq, ↓reduceIte])⟩
          · exact ⟨(i + 1, m2), ⟨by simp only; omega, by simp [itA_succ, itA1, h2, hm2]⟩, by simp only; omega, Weak.mk (by simp (disch := omega) only [instO, go_sem, seval, reduceCtorEq, ↓reduceIte])⟩
        · have hin : i = x.apart.length := by omega
          subst hin
          clear hi h
          refine awp_for [1, 60, 61] (fun q : Nat × List Itm => [(3, .sl 1 0 q.2.length q.2.length), (62, .p (.int .i64 q.1))]) (fun q => [instO x, .elems 2 (q.2.map eItm)]) (fun q => q.1 ≤ x.before.length ∧ q.2 = m2 ++ itB x q.1) (fun q => x.before.length - q.1) (0, m2) ⟨by simp, by simp [itB]⟩ (Weak.mk ?_) ?_
          · simp (disch := omega) only [instO, go_sem, seval, reduceCtorEq, ↓reduceIte]
          · rintro ⟨i, m3⟩ ⟨hi, hm3⟩
            simp only at hi hm3
            have hm3l : m3.length ≤ m2.length + i := by have := itB_len x i; rw [hm3, List.length_append]; omega
            simp (disch := omega) only [instO, go_sem, seval, reduceCtorEq, ↓reduceIte]
            refine acond_b (fun h => ?_) (fun h => ?_) <;> (try simp only [decide_eq_true_eq, decide_eq_false_iff_not] at h) <;> simp (disch := omega) only [Sh.out h, go_sem, seval, reduceCtorEq, ↓reduceIte]
            · have hi2 : i < x.before.length := by omega
              refine (off49_c x (nth x.before i).2 (by omega)).use ?_
              simp (disch := omega) only [go_sem, seval, reduceCtorEq, ↓reduceIte]
              refine acond_b (fun h2 => ?_) (fun h2 => ?_) <;> (try simp only [decide_eq_true_eq, decide_eq_false_iff_not] at h2) <;> simp (disch := omega) only [Sh.out h2, go_sem, seval, reduceCtorEq, ↓reduceIte]
              · exact ⟨(i + 1, m3 ++ [⟨6, i⟩]), ⟨by simp only; omega, by simp only [itB_succ, itB1, h2, if_true, hm3, List.append_assoc]⟩, by simp only; omega, Weak.mk (by simp (disch := omega) only [instO, go_sem, seval, reduceCtorEq, ↓reduceIte])⟩
              · exact ⟨(i + 1, m3), ⟨by simp only; omega, by simp [itB_succ, itB1, h2, hm3]⟩, by simp only; omega, Weak.mk (by simp (disch := omega) only [instO, go_sem, seval, reduceCtorEq, ↓reduceIte])⟩
            · have hin : i = x.before.length := by omega
              subst hin
              have hpre : m3 = preI x := by rw [hm3, hm2, hm, hos]; rfl
              have hne : m3 ≠ [] := fun e => by have := congrArg List.length hpre; rw [e] at this; simp [preI, itT_len] at this; omega
              refine (sortItems_c m3 hne (by omega) (H := _) (o := 1) rfl).mono ?_
              rintro y H' ⟨rfl, ys, h1, h2, rfl⟩
              have hyl : ys.length = m3.length := h1.length_eq
              simp (disch := omega) only [List.set_cons_succ, List.set_cons_zero, go_sem, seval, reduceCtorEq, ↓reduceIte]
              rw [← hyl]
              exact ⟨ys, ⟨by rw [← hpre]; exact h1, h2⟩, 1, by simp (disch := omega) only [go_sem, seval, reduceCtorEq, ↓reduceIte]⟩
end Go.Proofs.YtccjopdlbolnhaaGreat.K
set_option linter.unusedVariables false
set_option linter.unusedSimpArgs false
namespace Go.Proofs.YtccjopdlbolnhaaGreat.K
open Go Go.AM Go.Proofs
set_option maxRecDepth 8000
set_option maxHeartbeats 2000000
def actB (x : Inst) (i : Int) : Bool := decide (0 ≤ i) && decide (i < (x.orders.length : Int)) && !(nth x.orders i.toNat).off
theorem offB_act {x o} : offB x o = !actB x o := by
  unfold offB actB
  by_cases h1 : o < 0
  · have : ¬ 0 ≤ o := by omega
    simp [h1, this]
  · by_cases h2 : (x.orders.length : Int) ≤ o
    · have : ¬ o < (x.orders.length : Int) := by omega
      simp [h2, this]
    · have h3 : 0 ≤ o := by omega
      have h4 : o < (x.orders.length : Int) := by omega
      simp [h1, h2, h3, h4]
def ordB (o : Ord) (kind : Int) : Bool := if kind = 1 then decide (0 ≤ o.pick.place) else if kind = 2 then decide (0 ≤ o.drp.place) else if kind = 4 then decide (o.skills ≠ 0) else decide (o.penalty = -1)
def hasI (x : Inst) (v : Itm) : Bool :=
  if v.kind = 1 ∨ v.kind = 2 ∨ v.kind = 4 ∨ v.kind = 10 then actB x v.a && ordB (nth x.orders v.a.toNat) v.kind
  else if v.kind = 3 ∨ v.kind = 7 ∨ v.kind = 8 ∨ v.kind = 9 then decide (0 ≤ v.a) && decide (v.a < (x.types.length : Int))
  else if v.kind = 5 then decide (0 ≤ v.a) && decide (v.a < (x.apart.length : Int)) && actB x (nth x.apart v.a.toNat).1 && actB x (nth x.apart v.a.toNat).2
  else if v.kind = 6 then decide (0 ≤ v.a) && decide (v.a < (x.before.length : Int)) && actB x (nth x.before v.a.toNat).2
  else false
theorem mem_itO {x i} {v : Itm} : v ∈ itO x i ↔ (nth x.orders i).off = false ∧ v.a = (i : Int) ∧ ((v.kind = 1 ∧ (nth x.orders i).pick.place ≠ -1) ∨ (v.kind = 2 ∧ (nth x.orders i).drp.place ≠ -1) ∨ (v.kind = 4 ∧ (nth x.orders i).skills ≠ 0) ∨ (v.kind = 10 ∧ (nth x.orders i).penalty = -1)) := by
  have one : ∀ (c : Prop) [Decidable c] (w : Itm), v ∈ (if c then [w] else []) ↔ c ∧ v.kind = w.kind ∧ v.a = w.a := fun c _ w => by
    split <;> simp_all [itm_eq]
  unfold itO
  split
  · rename_i h; simp [h]
  · rename_i h
    simp only [List.mem_append, one]
    have h2 : (nth x.orders i).off = false := by simpa using h
    simp only [h2, true_and]
    constructor
    · rintro (((⟨h1, h2, h3⟩ | ⟨h1, h2, h3⟩) | ⟨h1, h2, h3⟩) | ⟨h1, h2, h3⟩)
      · exact ⟨h3, .inl ⟨h2, h1⟩⟩
      · exact ⟨h3, .inr (.inl ⟨h2, h1⟩)⟩
      · exact ⟨h3, .inr (.inr (.inl ⟨h2, h1⟩))⟩
      · exact ⟨h3, .inr (.inr (.inr ⟨h2, h1⟩))⟩
    · rintro ⟨h3, (⟨h2, h1⟩ | ⟨h2, h1⟩ | ⟨h2, h1⟩ | ⟨h2, h1⟩)⟩
      · exact .inl (.inl (.inl ⟨h1, h2, h3⟩))
      · exact .inl (.inl (.inr ⟨h1, h2, h3⟩))
      · exact .inl (.inr ⟨h1, h2, h3⟩)
      · exact .inr ⟨h1, h2, h3⟩
theorem mem_itT {n} {v : Itm} : v ∈ itT n ↔ (v.kind = 3 ∨ v.kind = 7 ∨ v.kind = 8 ∨ v.kind = 9) ∧ 0 ≤ v.a ∧ v.a < (n : Int) := by
  simp only [itT, List.mem_flatMap, List.mem_range, List.mem_cons, List.not_mem_nil, or_false, itm_eq]
  constructor
  · rintro ⟨i, hi, h⟩
    rcases h with ⟨h1, h2⟩ | ⟨h1, h2⟩ | ⟨h1, h2⟩ | ⟨h1, h2⟩ <;> refine ⟨by simp [h1], by omega, by omega⟩
  · rintro ⟨h, h1, h2⟩
    refine ⟨v.a.toNat, by omega, ?_⟩
    have : v.a = (v.a.toNat : Int) := by omega
    rcases h with h | h | h | h <;> simp [h, ← this]
theorem mem_itA {x n} {v : Itm} : v ∈ itA x n ↔ v.kind = 5 ∧ 0 ≤ v.a ∧ v.a < (n : Int) ∧ actB x (nth x.apart v.a.toNat).1 = true ∧ actB x (nth x.apart v.a.toNat).2 = true := by
  simp only [itA, List.mem_flatMap, List.mem_range, itA1, offB_act, Bool.not_not, Bool.and_eq_true]
  constructor
  · rintro ⟨i, hi, h⟩
    split at h
    · rename_i h3
      simp only [List.mem_cons, List.not_mem_nil, or_false, itm_eq] at h
      have e : v.a.toNat = i := by omega
      rw [e]
      exact ⟨h.1, by omega, by omega, h3⟩
    · simp at h
  · rintro ⟨h, h1, h2, h3⟩
    refine ⟨v.a.toNat, by omega, ?_⟩
    rw [if_pos h3]
    simp only [List.mem_cons, List.not_mem_nil, or_false, itm_eq]
    exact ⟨h, by omega⟩
theorem mem_itB {x n} {v : Itm} : v ∈ itB x n ↔ v.kind = 6 ∧ 0 ≤ v.a ∧ v.a < (n : Int) ∧ actB x (nth x.before v.a.toNat).2 = true := by
  simp only [itB, List.mem_flatMap, List.mem_range, itB1, offB_act, Bool.not_not]
  constructor
  · rintro ⟨i, hi, h⟩
    split at h
    · rename_i h3
      simp only [List.mem_cons, List.not_mem_nil, or_false, itm_eq] at h
      have e : v.a.toNat = i := by omega
      rw [e]
      exact ⟨h.1, by omega, by omega, h3⟩
    · simp at h
  · rintro ⟨h, h1, h2, h3⟩
    refine ⟨v.a.toNat, by omega, ?_⟩
    rw [if_pos h3]
    simp only [List.mem_cons, List.not_mem_nil, or_false, itm_eq]
    exact ⟨h, by omega⟩
theorem mem_itOs {x : Inst} (hp : Plc x) {v : Itm} : v ∈ itOs x x.orders.length ↔ (v.kind = 1 ∨ v.kind = 2 ∨ v.kind = 4 ∨ v.kind = 10) ∧ actB x v.a = true ∧ ordB (nth x.orders v.a.toNat) v.kind = true := by
  simp only [itOs, List.mem_flatMap, List.mem_range, mem_itO]
  constructor
  · rintro ⟨i, hi, h0, ha, h⟩
    have e : v.a.toNat = i := by omega
    have hpl := hp _ (nth_mem hi)
    rw [e]
    refine ⟨?_, by simp only [actB, e, h0, Bool.not_false, Bool.and_true, Bool.and_eq_true, decide_eq_true_eq]; omega, ?_⟩
    · rcases h with h | h | h | h <;> simp [h.1]
    · rcases h with h | h | h | h <;> simp only [ordB, h.1] <;> simp [h.2] <;> omega
  · rintro ⟨hk, ha, ho⟩
    simp only [actB, Bool.and_eq_true, decide_eq_true_eq, Bool.not_eq_true'] at ha
    refine ⟨v.a.toNat, by omega, ha.2, by omega, ?_⟩
    rcases hk with h | h | h | h <;> simp only [ordB, h] at ho <;> simp at ho <;> simp [h] <;> first | exact ho | omega
theorem mem_preI {x : Inst} (hp : Plc x) {v : Itm} : v ∈ preI x ↔ hasI x v = true := by
  simp only [preI, List.mem_append, mem_itOs hp, mem_itT, mem_itA, mem_itB, hasI]
  by_cases h1 : v.kind = 1 ∨ v.kind = 2 ∨ v.kind = 4 ∨ v.kind = 10
  · rw [if_pos h1]
    have h2 : ¬ (v.kind = 3 ∨ v.kind = 7 ∨ v.kind = 8 ∨ v.kind = 9) := by omega
    have h3 : ¬ v.kind = 5 := by omega
    have h4 : ¬ v.kind = 6 := by omega
    simp [h1, h2, h3, h4]
  · rw [if_neg h1]
    by_cases h2 : v.kind = 3 ∨ v.kind = 7 ∨ v.kind = 8 ∨ v.kind = 9
    · rw [if_pos h2]
      have h3 : ¬ v.kind = 5 := by omega
      have h4 : ¬ v.kind = 6 := by omega
      simp [h1, h2, h3, h4]
    · rw [if_neg h2]
      by_cases h3 : v.kind = 5
      · rw [if_pos h3]
        simp [h1, h2, h3, and_assoc]
      · rw [if_neg h3]
        by_cases h4 : v.kind = 6
        · rw [if_pos h4]
          simp [h1, h2, h3, h4, and_assoc]
        · simp [h1, h2, h3, h4]
theorem itO_nodup (x i) : (itO x i).Nodup := by
  unfold itO
  split
  · simp
  · split <;> split <;> split <;> split <;> simp
theorem flat_nodup {f : Nat → List Itm} {n : Nat} (h : ∀ i, (f i).Nodup) (ha : ∀ i, ∀ v ∈ f i, v.a = (i : Int)) : ((List.range n).flatMap f).Nodup := by
  rw [List.Nodup, List.pairwise_flatMap]
  refine ⟨fun i _ => h i, List.Pairwise.imp ?_ (List.nodup_range (n := n))⟩
  intro i j hij v hv w hw e
  have h1 := ha i v hv
  have h2 := ha j w hw
  rw [e] at h1
  omega
theorem preI_nodup {x : Inst} (hp : Plc x) : (preI x).Nodup := by
  have n1 : (itOs x x.orders.length).Nodup := flat_nodup (itO_nodup x) fun i v hv => (mem_itO.1 hv).2.1
  have n2 : (itT x.types.length).Nodup := flat_nodup (fun i => by simp) fun i v hv => by
    simp only [List.mem_cons, List.not_mem_nil, or_false] at hv
    rcases hv with rfl | rfl | rfl | rfl <;> rfl
  have n3 : (itA x x.apart.length).Nodup := flat_nodup (fun i => by unfold itA1; split <;> simp) fun i v hv => by
    unfold itA1 at hv; split at hv
    · simp at hv; rw [hv]
    · simp at hv
  have n4 : (itB x x.before.length).Nodup := flat_nodup (fun i => by unfold itB1; split <;> simp) fun i v hv => by
    unfold itB1 at hv; split at hv
    · simp at hv; rw [hv]
    · simp at hv
  rw [preI, List.nodup_append, List.nodup_append, List.nodup_append]
  refine ⟨⟨⟨n1, n2, fun v hv w hw e => ?_⟩, n3, fun v hv w hw e => ?_⟩, n4, fun v hv w hw e => ?_⟩
  · subst e
    have h1 := (mem_itOs hp).1 hv
    have h2 := mem_itT.1 hw
    omega
  · subst e
    have h2 := mem_itA.1 hw
    rcases List.mem_append.1 hv with hv | hv
    · have h1 := (mem_itOs hp).1 hv; omega
    · have h1 := mem_itT.1 hv; omega
  · subst e
    have h2 := mem_itB.1 hw
    rcases List.mem_append.1 hv with hv | hv
    · rcases List.mem_append.1 hv with hv | hv
      · have h1 := (mem_itOs hp).1 hv; omega
      · have h1 := mem_itT.1 hv; omega
    · have h1 := mem_itA.1 hv; omega
/-- the rules that are asked for, one by one -/
def ref1 (x : Inst) (k : Nat) (a : Nat) : List Itm := if hasI x ⟨k + 1, a⟩ = true then [⟨k + 1, a⟩] else []
def refK (x : Inst) (k n : Nat) : List Itm := (List.range n).flatMap (ref1 x k)
def mostI (x : Inst) : Nat := max (max (max x.orders.length x.types.length) x.apart.length) x.before.length
def refI (x : Inst) (n : Nat) : List Itm := (List.range n).flatMap fun k => refK x k (mostI x)
theorem mem_ref1 {x k a} {v : Itm} : v ∈ ref1 x k a ↔ hasI x v = true ∧ v.kind = (k : Int) + 1 ∧ v.a = (a : Int) := by
  unfold ref1
  constructor
  · intro h
    split at h
    · simp at h; subst h; rename_i h2; exact ⟨h2, rfl, rfl⟩
    · simp at h
  · rintro ⟨h1, h2, h3⟩
    have : v = ⟨(k : Int) + 1, a⟩ := itm_eq.2 ⟨h2, h3⟩
    subst this
    rw [if_pos h1]; simp
theorem mem_refI {x : Inst} {v : Itm} : v ∈ refI x 10 ↔ hasI x v = true := by
  simp only [refI, refK, List.mem_flatMap, List.mem_range, mem_ref1]
  constructor
  · rintro ⟨k, _, a, _, h, _⟩; exact h
  · intro h
    have hk : 1 ≤ v.kind ∧ v.kind ≤ 10 ∧ 0 ≤ v.a ∧ v.a < (mostI x : Int) := by
      unfold hasI at h
      unfold mostI
      split at h
      · simp only [actB, Bool.and_eq_true, decide_eq_true_eq] at h; omega
      · split at h
        · simp only [Bool.and_eq_true, decide_eq_true_eq] at h; omega
        · split at h
          · simp only [Bool.and_eq_true, decide_eq_true_eq] at h; omega
          · split at h
            · simp only [Bool.and_eq_true, decide_eq_true_eq] at h; omega
            · simp at h
    exact ⟨(v.kind - 1).toNat, by omega, v.a.toNat, by omega, h, by omega, by omega⟩
theorem refI_sorted (x : Inst) (n : Nat) : (refI x n).Pairwise fun a b => cmpT a b < 0 := by
  rw [refI, List.pairwise_flatMap]
  refine ⟨fun k _ => ?_, List.Pairwise.imp ?_ (List.pairwise_lt_range (n := n))⟩
  · rw [refK, List.pairwise_flatMap]
    refine ⟨fun a _ => by unfold ref1; split <;> simp, List.Pairwise.imp ?_ (List.pairwise_lt_range (n := _))⟩
    intro i j hij v hv w hw
    have h1 := mem_ref1.1 hv
    have h2 := mem_ref1.1 hw
    rw [cmpT_lt]; omega
  · intro i j hij v hv w hw
    simp only [refK, List.mem_flatMap, mem_ref1] at hv hw
    obtain ⟨_, _, h1⟩ := hv
    obtain ⟨_, _, h2⟩ := hw
    rw [cmpT_lt]; omega
theorem sorted_ext {α : Type} {R : α → α → Prop} (asym : ∀ a b, R a b → ¬ R b a) : ∀ {l m : List α}, l.Pairwise R → m.Pairwise R → (∀ v, v ∈ l ↔ v ∈ m) → l = m
  | [], [], _, _, _ => rfl
  | [], b :: m, _, _, h => absurd ((h b).2 (by simp)) (by simp)
  | a :: l, [], _, _, h => absurd ((h a).1 (by simp)) (by simp)
  | a :: l, b :: m, hl, hm, h => by
    rw [List.pairwise_cons] at hl hm
    have e : a = b := by
      rcases List.mem_cons.1 ((h a).1 (by simp)) with e | e
      · exact e
      · rcases List.mem_cons.1 ((h b).2 (by simp)) with e2 | e2
        · exact e2.symm
        · exact absurd (hl.1 b e2) (asym _ _ (hm.1 a e))
    subst e
    have irr : ¬ R a a := fun h => asym a a h h
    rw [sorted_ext asym hl.2 hm.2 fun v => ⟨fun hv => ?_, fun hv => ?_⟩]
    · rcases List.mem_cons.1 ((h v).1 (by simp [hv])) with e | e
      · subst e; exact absurd (hl.1 _ hv) irr
      · exact e
    · rcases List.mem_cons.1 ((h v).2 (by simp [hv])) with e | e
      · subst e; exact absurd (hm.1 _ hv) irr
      · exact e
theorem items_eq {x : Inst} (hp : Plc x) {m : List Itm} (h1 : m.Perm (preI x)) (h2 : m.Pairwise fun a b => ¬ cmpT b a < 0) : m = refI x 10 := by
  refine sorted_ext (R := fun a b => cmpT a b < 0) (fun a b h k => ?_) ?_ (refI_sorted x 10) fun v => ?_
  · rw [cmpT_lt] at h k; omega
  · have h3 : m.Nodup := h1.nodup_iff.2 (preI_nodup hp)
    have h4 := List.Pairwise.and h2 h3
    refine h4.imp ?_
    rintro a b ⟨h5, h6⟩
    rw [cmpT_lt] at h5 ⊢
    have : ¬ (a.kind = b.kind ∧ a.a = b.a) := fun h => h6 (itm_eq.2 h)
    omega
  · rw [h1.mem_iff, mem_preI hp, mem_refI]
theorem items_c (x : Inst) (hp : Plc x) (ho : x.orders.length ≤ 1000) (ht : 0 < x.types.length ∧ x.types.length ≤ 1000) (ha : x.apart.length ≤ 1000) (hb : x.before.length ≤ 1000) : ACalls Tryz.prog 11 [.p (eInst x)] [] fun y H' => y = .p (.list false ((refI x 10).map eItm)) ∧ H' = [] := by
  refine ACalls.frozen (S := 2) (n := (refI x 10).length) (by simp) ?_
  refine (items_own x ho ht ha hb).mono ?_
  rintro y H' ⟨m, ⟨h1, h2⟩, h3, h4⟩
  rw [items_eq hp h1 h2] at h3 h4
  exact ⟨h3, h4⟩
end Go.Proofs.YtccjopdlbolnhaaGreat.K
set_option linter.unusedVariables false
set_option linter.unusedSimpArgs false
namespace Go.Proofs.YtccjopdlbolnhaaGreat.K
open Go Go.AM Go.Proofs
set_option maxRecDepth 8000
set_option maxHeartbeats 8000000
/-- the first place of a rule, or -1 -/
def tIx (l : List Itm) (v : Itm) : Int := match l.findIdx? (fun w => decide (v = w)) with | some i => (i : Int) | none => -1
theorem tIx_at {l : List Itm} {v : Itm} {k : Nat} (hk : k < l.length) (h : v = nth l k) (hno : ∀ j, j < k → ¬ v = nth l j) : tIx l v = (k : Int) := by
  have : l.findIdx? (fun w => decide (v = w)) = some k := by
    rw [List.findIdx?_eq_some_iff_getElem]
    refine ⟨hk, by rw [← nth_get hk]; simpa using h, fun j hj => ?_⟩
    have h2 := hno j hj
    rw [nth_get (by omega)] at h2
    simpa using h2
  simp [tIx, this]
theorem tIx_no {l : List Itm} {v : Itm} (hno : ∀ j, j < l.length → ¬ v = nth l j) : tIx l v = -1 := by
  have : l.findIdx? (fun w => decide (v = w)) = none := by
    rw [List.findIdx?_eq_none_iff]
    intro x hx
    obtain ⟨j, hj, rfl⟩ := List.mem_iff_getElem.1 hx
    have := hno j hj
    rw [nth_get hj] at this
    simpa using this
  simp [tIx, this]
theorem tIx_mem {l : List Itm} {v : Itm} : 0 ≤ tIx l v ↔ v ∈ l := by
  unfold tIx
  cases h : l.findIdx? (fun w => decide (v = w)) with
  | none =>
    rw [List.findIdx?_eq_none_iff] at h
    have : v ∉ l := fun hm => by simpa using h v hm
    simp [this]
  | some i =>
    rw [List.findIdx?_eq_some_iff_getElem] at h
    obtain ⟨h1, h2, _⟩ := h
    have h3 : v = l[i] := by simpa using h2
    have : v ∈ l := by rw [h3]; exact List.getElem_mem _
    simp [this]
theorem index49_c (l : List Itm) (c : Bool) (v : Itm) (hl : l.length ≤ 1048576) : ACalls Tryz.prog 35 [.p (.list c (l.map eItm)), .p (eItm v)] [] fun x H' => x = .p (.int .i64 (tIx l v)) ∧ H' = [] := by
  refine acalls_pure (fn := Tryz.f35) Tryz.func35 rfl isF35 ?_
  simp (disch := omega) only [Tryz.f35, go_sem, seval, reduceCtorEq, ↓reduceIte]
  refine awp_for [0, 3, 7] (fun k : Nat => [(8, .p (.int .i64 k))]) (fun _ => [.cells [.p (.int .i64 v.kind), .p (.int .i64 v.a)]]) (fun k => k ≤ l.length ∧ ∀ j, j < k → ¬ v = nth l j) (fun k => l.length - k) 0 (by simp) (Weak.mk ?_) ?_
  · simp (disch := omega) only [go_sem, seval, reduceCtorEq, ↓reduceIte]
  · rintro k ⟨hk, hno⟩
    simp (disch := omega) only [go_sem, seval, reduceCtorEq, ↓reduceIte]
    refine acond_b (fun h => ?_) (fun h => ?_) <;> (try simp only [decide_eq_true_eq, decide_eq_false_iff_not] at h) <;> simp (disch := omega) only [Sh.out h, go_sem, seval, reduceCtorEq, ↓reduceIte]
    · have hk2 : k < l.length := by omega
      refine awp_drawnA mixed (by kernel_rfl) (by kernel_rfl) ?_
      simp (disch := omega) only [go_sem, seval, reduceCtorEq, ↓reduceIte]
      refine acond_b (fun h2 => ?_) (fun h2 => ?_) <;> (try simp only [decide_eq_true_eq, decide_eq_false_iff_not] at h2) <;> simp (disch := omega) only [Sh.out h2, go_sem, seval, reduceCtorEq, ↓reduceIte]
      · have : v = nth l k := by rw [itm_eq]; simpa using h2
        rw [tIx_at hk2 this hno]
      · have : ¬ v = nth l k := by rw [itm_eq]; simpa using h2
        exact ⟨k + 1, ⟨by omega, upto_iff.2 ⟨hno, this⟩⟩, by omega, Weak.mk (by simp (disch := omega) only [go_sem, seval, reduceCtorEq, ↓reduceIte])⟩
    · have hkl : k = l.length := by omega
      subst hkl
      rw [tIx_no hno]
theorem contains49_c (l : List Itm) (c : Bool) (v : Itm) (hl : l.length ≤ 1048576) : ACalls Tryz.prog 14 [.p (.list c (l.map eItm)), .p (eItm v)] [] fun x H' => x = .p (.bool (decide (v ∈ l))) ∧ H' = [] := by
  refine acalls_pure (fn := Tryz.f14) Tryz.func14 rfl isF14 ?_
  simp (disch := omega) only [Tryz.f14, go_sem, seval, reduceCtorEq, ↓reduceIte]
  refine (index49_c l c v hl).use ?_
  simp (disch := omega) only [go_sem, seval, reduceCtorEq, ↓reduceIte]
  simp only [tIx_mem]
theorem cloneInts_own (l : List Int) (c : Bool) (hl : l.length ≤ 1048576) : ACalls Tryz.prog 37 [.p (.list c (l.map eI))] [] fun y H' => y = .sl 0 0 l.length l.length ∧ H' = [.elems 1 (l.map eI)] := by
  refine acalls_weak [1] (fn := Tryz.f37) Tryz.func37 rfl isF37 ?_
  simp (disch := omega) only [Tryz.f37, go_sem, seval, reduceCtorEq, ↓reduceIte]
  refine awp_seq (awp_nilc (e := 3) (cl := c) (xs := l.map eI) Tryz.underlying58 (by rfl) (by simp) fun b hb => ?_)
  refine awp_sound [] _ _ _ _ ?_
  simp (disch := omega) only [go_sem, seval, reduceCtorEq, ↓reduceIte]
  refine acond_b (fun h => ?_) (fun h => ?_) <;> (try simp only [decide_eq_true_eq, decide_eq_false_iff_not] at h) <;> simp (disch := omega) only [Sh.out h, go_sem, seval, reduceCtorEq, ↓reduceIte]
  · have : l = [] := by simpa using hb h
    subst this
    exact ⟨_, _, Weak.nil 0 1 rfl (by simp), rfl, rfl⟩
  · refine awp_sound [] _ _ _ _ ?_
    simp (disch := omega) only [go_sem, seval, reduceCtorEq, ↓reduceIte]
    exact ⟨_, _, Weak.mk (by simp (disch := omega) only [go_sem, seval, reduceCtorEq, ↓reduceIte]), rfl, rfl⟩
theorem cloneTyps_own (l : List Typ) (c : Bool) (hl : l.length ≤ 1048576) : ACalls Tryz.prog 15 [.p (.list c (l.map eTyp))] [] fun y H' => y = .sl 0 0 l.length l.length ∧ H' = [.elems 14 (l.map eTyp)] := by
  refine acalls_weak [1] (fn := Tryz.f15) Tryz.func15 rfl isF15 ?_
  simp (disch := omega) only [Tryz.f15, go_sem, seval, reduceCtorEq, ↓reduceIte]
  refine awp_seq (awp_nilc (e := 62) (cl := c) (xs := l.map eTyp) Tryz.underlying26 (by rfl) (by simp) fun b hb => ?_)
  refine awp_sound [] _ _ _ _ ?_
  simp (disch := omega) only [go_sem, seval, reduceCtorEq, ↓reduceIte]
  refine acond_b (fun h => ?_) (fun h => ?_) <;> (try simp only [decide_eq_true_eq, decide_eq_false_iff_not] at h) <;> simp (disch := omega) only [Sh.out h, go_sem, seval, reduceCtorEq, ↓reduceIte]
  · have : l = [] := by simpa using hb h
    subst this
    exact ⟨_, _, Weak.nil 0 14 rfl (by simp), rfl, rfl⟩
  · refine awp_sound [] _ _ _ _ ?_
    simp (disch := omega) only [go_sem, seval, reduceCtorEq, ↓reduceIte]
    exact ⟨_, _, Weak.mk (by simp (disch := omega) only [go_sem, seval, reduceCtorEq, ↓reduceIte]), rfl, rfl⟩
theorem cloneOrds_own (l : List Ord) (c : Bool) (hl : l.length ≤ 1048576) : ACalls Tryz.prog 16 [.p (.list c (l.map eOrd))] [] fun y H' => y = .sl 0 0 l.length l.length ∧ H' = [.elems 16 (l.map eOrd)] := by
  refine acalls_weak [1] (fn := Tryz.f16) Tryz.func16 rfl isF16 ?_
  simp (disch := omega) only [Tryz.f16, go_sem, seval, reduceCtorEq, ↓reduceIte]
  refine awp_seq (awp_nilc (e := 60) (cl := c) (xs := l.map eOrd) Tryz.underlying27 (by rfl) (by simp) fun b hb => ?_)
  refine awp_sound [] _ _ _ _ ?_
  simp (disch := omega) only [go_sem, seval, reduceCtorEq, ↓reduceIte]
  refine acond_b (fun h => ?_) (fun h => ?_) <;> (try simp only [decide_eq_true_eq, decide_eq_false_iff_not] at h) <;> simp (disch := omega) only [Sh.out h, go_sem, seval, reduceCtorEq, ↓reduceIte]
  · have : l = [] := by simpa using hb h
    subst this
    exact ⟨_, _, Weak.nil 0 16 rfl (by simp), rfl, rfl⟩
  · refine awp_sound [] _ _ _ _ ?_
    simp (disch := omega) only [go_sem, seval, reduceCtorEq, ↓reduceIte]
    exact ⟨_, _, Weak.mk (by simp (disch := omega) only [go_sem, seval, reduceCtorEq, ↓reduceIte]), rfl, rfl⟩
/-- the pairs whose rules are not left out -/
def keepP (l : List (Int × Int)) (w : List Itm) (kind : Int) (k : Nat) : List (Int × Int) := (List.range k).flatMap fun (i : Nat) => if (⟨kind, i⟩ : Itm) ∈ w then [] else [nth l i]
theorem keepP_succ (l w kind k) : keepP l w kind (k + 1) = keepP l w kind k ++ if (⟨kind, k⟩ : Itm) ∈ w then [] else [nth l k] := by simp [keepP, List.range_succ]
theorem keepP_len (l w kind) : ∀ k, (keepP l w kind k).length ≤ k
  | 0 => by simp [keepP]
  | k + 1 => by
    have := keepP_len l w kind k
    rw [keepP_succ, List.length_append]
    split <;> simp <;> omega
theorem pairs49_c (l : List (Int × Int)) (w : List Itm) (kind : Int) (c d : Bool) (hl : l.length ≤ 1048576) (hw : w.length ≤ 1048576) : ACalls Tryz.prog 19 [.p (.list c (l.map eP)), .p (.list d (w.map eItm)), .p (.int .i64 kind)] [] fun y H' => y = .p (.list false ((keepP l w kind l.length).map eP)) ∧ H' = [] := by
  refine ACalls.frozen (S := 2) (n := (keepP l w kind l.length).length) (by simp) ?_
  suffices hh : ACalls Tryz.prog 19 [.p (.list c (l.map eP)), .p (.list d (w.map eItm)), .p (.int .i64 kind)] [] fun y H' => ∃ m : List (Int × Int), m = keepP l w kind l.length ∧ y = .sl 0 0 m.length m.length ∧ H' = [.elems 2 (m.map eP)] by
    refine hh.mono ?_
    rintro x H' ⟨m, rfl, h1, h2⟩
    exact ⟨h1, h2⟩
  refine acalls_freshE [2] (fn := Tryz.f19) Tryz.func19 rfl isF19 ?_
  simp (disch := omega) only [Tryz.f19, go_sem, seval, reduceCtorEq, ↓reduceIte]
  refine awp_weak (Weak.ofNil 7 2 (by simp (disch := omega) only [go_sem, seval, reduceCtorEq, ↓reduceIte]) (by simp) (Weak.refl _ _ _)) ?_
  refine awp_sound [] _ _ _ _ ?_
  simp (disch := omega) only [go_sem, seval, reduceCtorEq, ↓reduceIte]
  refine awp_for [1, 2, 10, 11] (fun q : Nat × List (Int × Int) => [(7, .sl 0 0 q.2.length q.2.length), (12, .p (.int .i64 q.1))]) (fun q => [.elems 2 (q.2.map eP)]) (fun q => q.1 ≤ l.length ∧ q.2 = keepP l w kind q.1) (fun q => l.length - q.1) (0, []) ⟨by simp, by simp [keepP]⟩ (Weak.mk ?_) ?_
  · simp (disch := omega) only [go_sem, seval, reduceCtorEq, ↓reduceIte]
  · rintro ⟨k, m⟩ ⟨hk, hm⟩
    simp only at hk hm
    have hml := keepP_len l w kind k
    rw [← hm] at hml
    have hs := keepP_succ l w kind k
    simp (disch := omega) only [go_sem, seval, reduceCtorEq, ↓reduceIte]
    refine acond_b (fun h => ?_) (fun h => ?_) <;> (try simp only [decide_eq_true_eq, decide_eq_false_iff_not] at h) <;> simp (disch := omega) only [Sh.out h, go_sem, seval, reduceCtorEq, ↓reduceIte]
    · have hk2 : k < l.length := by omega
      refine (contains49_c w d ⟨kind, k⟩ hw).use ?_
      simp (disch := omega) only [go_sem, seval, reduceCtorEq, ↓reduceIte]
      refine acond_b (fun h2 => ?_) (fun h2 => ?_) <;> (try simp only [decide_eq_true_eq, decide_eq_false_iff_not] at h2) <;> simp (disch := omega) only [Sh.out h2, go_sem, seval, reduceCtorEq, ↓reduceIte]
      · have h3 : ¬ (⟨kind, k⟩ : Itm) ∈ w := by simpa using h2
        exact ⟨(k + 1, m ++ [nth l k]), ⟨by simp only; omega, by simp only [hs, h3, if_false, hm]⟩, by simp only; omega, Weak.mk (by simp (disch := omega) only [go_sem, seval, reduceCtorEq, ↓reduceIte])⟩
      · have h3 : (⟨kind, k⟩ : Itm) ∈ w := by simpa using h2
        exact ⟨(k + 1, m), ⟨by simp only; omega, by simp only [hs, h3, if_true, hm, List.append_nil]⟩, by simp only; omega, Weak.mk (by simp (disch := omega) only [go_sem, seval, reduceCtorEq, ↓reduceIte])⟩
    · have hkl : k = l.length := by omega
      subst hkl
      exact ⟨m, hm, 0, by simp (disch := omega) only [go_sem, seval, reduceCtorEq, ↓reduceIte]⟩
/-- an order without a rule -/
def ordW (o : Ord) (kind : Int) : Ord :=
  if kind = 1 then { o with pick := { o.pick with cls := 4096 } }
  else if kind = 2 then { o with drp := { o.drp with cls := 4096 } }
  else if kind = 4 then { o with skills := 0 }
  else if kind = 10 then { o with penalty := 0 }
  else o
theorem set_map {α β : Type} {f : α → β} {l : List α} {i : Nat} {a : α} : (l.map f).set i (f a) = (l.set i a).map f := by rw [List.map_set]
theorem openP_c (os : List Ord) (i : Nat) (hi : i < os.length) : ACalls Tryz.prog 36 [.ep 0 i 2 os.length] [.elems 16 (os.map eOrd)] fun y H' => y = .tup [] ∧ H' = [.elems 16 ((os.set i (ordW (nth os i) 1)).map eOrd)] := by
  refine acalls_weak [] (fn := Tryz.f36) Tryz.func36 rfl isF36 ?_
  simp (disch := omega) only [Tryz.f36, go_sem, seval, reduceCtorEq, ↓reduceIte]
  exact ⟨_, _, Weak.refl _ _ _, rfl, by rw [← set_map]; rfl⟩
theorem openD_c (os : List Ord) (i : Nat) (hi : i < os.length) : ACalls Tryz.prog 36 [.ep 0 i 6 os.length] [.elems 16 (os.map eOrd)] fun y H' => y = .tup [] ∧ H' = [.elems 16 ((os.set i (ordW (nth os i) 2)).map eOrd)] := by
  refine acalls_weak [] (fn := Tryz.f36) Tryz.func36 rfl isF36 ?_
  simp (disch := omega) only [Tryz.f36, go_sem, seval, reduceCtorEq, ↓reduceIte]
  exact ⟨_, _, Weak.refl _ _ _, rfl, by rw [← set_map]; rfl⟩
theorem nth_self {α : Type} [Inhabited α] {l : List α} {i : Nat} (h : i < l.length) : l.set i (nth l i) = l := by
  rw [nth_get h]; exact List.set_getElem_self h
theorem order49_c (os : List Ord) (i : Nat) (k : Int) (hi : i < os.length) : ACalls Tryz.prog 17 [.ep 0 i 0 os.length, .p (.int .i64 k)] [.elems 16 (os.map eOrd)] fun y H' => y = .tup [] ∧ H' = [.elems 16 ((os.set i (ordW (nth os i) k)).map eOrd)] := by
  refine acalls_weak [] (fn := Tryz.f17) Tryz.func17 rfl isF17 ?_
  simp (disch := omega) only [Tryz.f17, go_sem, seval, reduceCtorEq, ↓reduceIte]
  refine acond_b (fun h1 => ?_) (fun h1 => ?_) <;> (try simp only [decide_eq_true_eq, decide_eq_false_iff_not] at h1) <;> simp (disch := omega) only [Sh.out h1, go_sem, seval, reduceCtorEq, ↓reduceIte]
  · subst h1
    refine (openP_c os i hi).useH ?_
    simp (disch := omega) only [go_sem, seval, reduceCtorEq, ↓reduceIte]
    exact ⟨_, _, Weak.refl _ _ _, rfl, rfl⟩
  · refine acond_b (fun h2 => ?_) (fun h2 => ?_) <;> (try simp only [decide_eq_true_eq, decide_eq_false_iff_not] at h2) <;> simp (disch := omega) only [Sh.out h2, go_sem, seval, reduceCtorEq, ↓reduceIte]
    · subst h2
      refine (openD_c os i hi).useH ?_
      simp (disch := omega) only [go_sem, seval, reduceCtorEq, ↓reduceIte]
      exact ⟨_, _, Weak.refl _ _ _, rfl, rfl⟩
    · refine acond_b (fun h3 => ?_) (fun h3 => ?_) <;> (try simp only [decide_eq_true_eq, decide_eq_false_iff_not] at h3) <;> simp (disch := omega) only [Sh.out h3, go_sem, seval, reduceCtorEq, ↓reduceIte]
      · subst h3
        exact ⟨_, _, Weak.refl _ _ _, rfl, by rw [← set_map]; rfl⟩
      · refine acond_b (fun h4 => ?_) (fun h4 => ?_) <;> (try simp only [decide_eq_true_eq, decide_eq_false_iff_not] at h4) <;> simp (disch := omega) only [Sh.out h4, go_sem, seval, reduceCtorEq, ↓reduceIte]
        · subst h4
          exact ⟨_, _, Weak.refl _ _ _, rfl, by rw [← set_map]; rfl⟩
        · have : ordW (nth os i) k = nth os i := by rw [ordW, if_neg h1, if_neg h2, if_neg h3, if_neg h4]
          rw [this, nth_self hi]
          exact ⟨_, _, Weak.refl _ _ _, rfl, rfl⟩
end Go.Proofs.YtccjopdlbolnhaaGreat.K
set_option linter.unusedVariables false
set_option linter.unusedSimpArgs false
namespace Go.Proofs.YtccjopdlbolnhaaGreat.K
open Go Go.AM Go.Proofs
set_option maxRecDepth 8000
set_option maxHeartbeats 8000000
theorem take1_set {α : Type} {cs : List α} {j : Nat} {v : α} (h : j < cs.length) : List.take 1 (List.drop j (cs.set j v)) = [v] := by
  rw [List.drop_eq_getElem_cons (by simpa using h)]; simp
theorem take1_at {α : Type} {cs : List α} {j : Nat} {v : α} (h : cs[j]? = some v) : List.take 1 (List.drop j cs) = [v] := by
  obtain ⟨h1, h2⟩ := List.getElem?_eq_some_iff.1 h
  rw [List.drop_eq_getElem_cons h1, h2]; simp
theorem spl_nil {α : Type} : ∀ {cs : List α} {j : Nat}, spl cs j [] = cs
  | [], _ => rfl
  | _ :: _, 0 => rfl
  | _ :: _, _ + 1 => by simp [spl, spl_nil]
theorem spl_set {α : Type} : ∀ {cs : List α} {j : Nat} {v : α}, spl cs j [v] = cs.set j v
  | [], _, _ => rfl
  | x :: l, 0, v => by simp [spl, spl_nil]
  | x :: l, j + 1, v => by simp [spl, spl_set (cs := l)]
theorem wkF_set {H : List AM.Obj} {n : Nat} {x x' : V} (hx : wkV H n x x') : ∀ {cs : List V} {j : Nat}, (∀ v ∈ cs, refB n v = true) → wkF H n (cs.set j x) (cs.set j x')
  | [], _, _ => by simp [wkF]
  | y :: l, 0, h => ⟨hx, wkF_same l fun j c hc => h c (List.mem_cons_of_mem _ (List.mem_of_getElem? hc))⟩
  | y :: l, j + 1, h => ⟨.inr (.inl ⟨rfl, h y (by simp)⟩), wkF_set hx fun v hv => h v (List.mem_cons_of_mem _ hv)⟩
theorem vehLoad_c (cs : List V) (b : Nat) (l : List Int) (c : Bool) (hb : b + 14 ≤ cs.length) (hp : ∀ n, ∀ v ∈ cs, refB n v = true) (h4 : cs[b + 4]? = some (.p (.list c (l.map eI)))) (hl : l.length ≤ 1048576) : ACalls Tryz.prog 18 [.ptr 0 b, .p (.int .i64 3)] [.cells cs] fun y H' => y = .tup [] ∧ H' = [.cells (cs.set (b + 4) (.p (.list false ((List.replicate l.length (1000 : Int)).map eI))))] := by
  refine acalls_weak [] (fn := Tryz.f18) Tryz.func18 rfl isF18 ?_
  have h5 := take1_at h4
  have h6 : b + 4 + 1 ≤ cs.length := by omega
  simp (disch := omega) only [Tryz.f18, h5, h6, go_sem, seval, reduceCtorEq, ↓reduceIte]
  refine ACalls.useF (S := 1) (n := l.length) (xs := l.map eI) (cloneInts_own l c hl) ?_
  simp (disch := omega) only [h6, spl_set, take1_set, List.length_set, go_sem, seval, reduceCtorEq, ↓reduceIte]
  refine awp_for [0, 20] (fun q : Nat × List Int => [(21, .p (.int .i64 q.1))]) (fun q => [.cells (cs.set (b + 4) (.sl 1 0 l.length l.length)), .elems 1 (q.2.map eI)]) (fun q => q.1 ≤ l.length ∧ q.2 = List.replicate q.1 (1000 : Int) ++ l.drop q.1) (fun q => l.length - q.1) (0, l) (by simp) (Weak.mk ?_) ?_
  · simp (disch := omega) only [h6, spl_set, take1_set, List.length_set, go_sem, seval, reduceCtorEq, ↓reduceIte]
    exact wkF_set (by simp (disch := omega) only [go_sem, seval, reduceCtorEq, ↓reduceIte]) (hp 2)
  · rintro ⟨k, m⟩ ⟨hk, hm⟩
    simp only at hk hm
    have hml : m.length = l.length := by rw [hm]; simp; omega
    rw [← hml] at hk ⊢
    have hme : (m.map eI).length = m.length := by simp
    simp (disch := omega) only [go_sem, seval, reduceCtorEq, ↓reduceIte]
    refine acond_b (fun h => ?_) (fun h => ?_) <;> (try simp only [decide_eq_true_eq, decide_eq_false_iff_not] at h) <;> simp (disch := omega) only [Sh.out h, go_sem, seval, reduceCtorEq, ↓reduceIte]
    · have hk2 : k < m.length := by omega
      simp (disch := omega) only [h6, spl_set, take1_set, List.length_set, go_sem, seval, reduceCtorEq, ↓reduceIte]
      refine ⟨(k + 1, m.set k 1000), ⟨by simp only; omega, ?_⟩, by simp only; omega, Weak.mk ?_⟩
      · rw [hm]
        have hkl : k < l.length := by omega
        simp only
        rw [List.set_append_right _ _ (by simp), List.drop_eq_getElem_cons hkl, List.replicate_succ', List.append_assoc]
        simp only [List.length_replicate, Nat.sub_self, List.set_cons_zero, List.cons_append, List.nil_append]
      · simp (disch := omega) only [mkE, List.set_cons_zero, List.headD_cons, go_sem, seval, reduceCtorEq, ↓reduceIte]
        refine ⟨wkF_set ?_ (hp 2), ?_⟩
        · simp (disch := omega) only [go_sem, seval, reduceCtorEq, ↓reduceIte]
        · exact set_map (f := eI)
    · have hkl : k = m.length := by omega
      subst hkl
      have hm2 : m = List.replicate m.length (1000 : Int) := by rw [hml, List.drop_length, List.append_nil] at hm; rw [hml]; exact hm
      rw [← hm2]
      refine ⟨_, _, ?_, rfl, rfl⟩
      refine Weak.mk ?_
      simp (disch := omega) only [go_sem, seval, reduceCtorEq, ↓reduceIte]
      refine wkF_set ?_ (hp 1)
      simp (disch := omega) only [go_sem, seval, reduceCtorEq, ↓reduceIte]
theorem vehInt_c (cs : List V) (b : Nat) (k : Int) (j : Nat) (v : Int) (hk : (k = 7 ∧ j = 8 ∧ v = 4096) ∨ (k = 8 ∧ j = 9 ∧ v = 4096) ∨ (k = 9 ∧ j = 1 ∧ v = 10)) (hb : b + 14 ≤ cs.length) (hp : ∀ n, ∀ v ∈ cs, refB n v = true) : ACalls Tryz.prog 18 [.ptr 0 b, .p (.int .i64 k)] [.cells cs] fun y H' => y = .tup [] ∧ H' = [.cells (cs.set (b + j) (.p (.int .i64 v)))] := by
  refine acalls_weak [] (fn := Tryz.f18) Tryz.func18 rfl isF18 ?_
  have h6 : b + j + 1 ≤ cs.length := by omega
  rcases hk with ⟨rfl, rfl, rfl⟩ | ⟨rfl, rfl, rfl⟩ | ⟨rfl, rfl, rfl⟩ <;>
  · simp (disch := omega) only [Tryz.f18, h6, spl_set, go_sem, seval, reduceCtorEq, ↓reduceIte]
    exact ⟨_, _, Weak.refl _ _ _, rfl, rfl⟩
/-- a type without a rule -/
def typW (t : Typ) (kind : Int) : Typ :=
  if kind = 3 then { t with cap_c := false, cap := List.replicate t.cap.length 1000 }
  else if kind = 7 then { t with cls := 4096 }
  else if kind = 8 then { t with drive := 4096 }
  else if kind = 9 then { t with count := 10 }
  else t
theorem flatC_set {S : Nat} {x' v : PV} {j : Nat} : ∀ {xs : List PV} {i : Nat} (h : i < xs.length), (∀ x ∈ xs, x.cells.length = S) → j < S → x'.cells = (xs[i]).cells.set j v → flatC (xs.set i x') = (flatC xs).set (i * S + j) v
  | [], _, h, _, _, _ => absurd h (by simp)
  | x :: xs, 0, _, hS, hj, he => by
    have hx := hS x (by simp)
    simp only [flatC, List.set_cons_zero, List.flatMap_cons, Nat.zero_mul, Nat.zero_add, List.getElem_cons_zero] at *
    rw [he, List.set_append_left _ _ (by omega)]
  | x :: xs, i + 1, h, hS, hj, he => by
    have hx := hS x (by simp)
    have := flatC_set (xs := xs) (i := i) (by simpa using h) (fun y hy => hS y (by simp [hy])) hj (by simpa using he)
    simp only [flatC, List.set_cons_succ, List.flatMap_cons] at *
    rw [this, List.set_append_right _ _ (by rw [hx, Nat.add_mul]; omega), hx]
    congr 2
    rw [Nat.add_mul]; omega
theorem vehicle49_c (ts : List Typ) (i : Nat) (k : Int) (hk : k = 3 ∨ k = 7 ∨ k = 8 ∨ k = 9) (hi : i < ts.length) (hc : (nth ts i).cap.length ≤ 1048576) {H : List AM.Obj} {o : Nat} (hH : H[o]? = some (.elems 14 (ts.map eTyp))) : ACalls Tryz.prog 18 [.ep o i 0 ts.length, .p (.int .i64 k)] H fun y H' => y = .tup [] ∧ H' = H.set o (.elems 14 ((ts.set i (typW (nth ts i) k)).map eTyp)) := by
  have hS : ∀ (us : List Typ), ∀ x ∈ us.map eTyp, x.cells.length = 14 := fun us x hx => by
    obtain ⟨t, _, rfl⟩ := List.mem_map.1 hx
    rfl
  have hlen : (ts.map eTyp).length = ts.length := by simp
  have hg := nth_get hi
  have main : ∀ (j : Nat) (v : PV), j < 14 → (eTyp (typW (nth ts i) k)).cells = (eTyp (nth ts i)).cells.set j v → (∀ cs : List V, i * 14 + 14 ≤ cs.length → (∀ n, ∀ v ∈ cs, refB n v = true) → cs[i * 14 + 4]? = some (.p (.list (nth ts i).cap_c ((nth ts i).cap.map eI))) → ACalls Tryz.prog 18 [.ptr 0 (i * 14), .p (.int .i64 k)] [.cells cs] fun y H' => y = .tup [] ∧ H' = [.cells (cs.set (i * 14 + j) (.p v))]) →
      ACalls Tryz.prog 18 [.ep o i 0 ts.length, .p (.int .i64 k)] H fun y H' => y = .tup [] ∧ H' = H.set o (.elems 14 ((ts.set i (typW (nth ts i) k)).map eTyp)) := fun j v hj he h => by
    rw [← hlen]
    refine ACalls.atF (S := 14) (ps := [.int .i64 k]) hH (hS _) (hS _) (fun sp => ?_) (by simp)
    have hfl := flatC_len (hS ts)
    have h4 : (flatC (ts.map eTyp))[i * 14 + 4]? = some (.list (nth ts i).cap_c ((nth ts i).cap.map eI)) := flatC_get (S := 14) (hS ts) i (eTyp (nth ts i)) 4 _ (by rw [List.getElem?_map, List.getElem?_eq_getElem hi, hg]; rfl) rfl
    have h4l := (List.getElem?_eq_some_iff.1 h4).1
    refine (h _ (by simp [hfl]; omega) (fun n v hv => ?_) ?_).mono ?_
    · rcases List.mem_append.1 hv with hv | hv
      · obtain ⟨y, _, rfl⟩ := List.mem_map.1 hv
        rfl
      · rw [List.eq_of_mem_replicate hv]; rfl
    · rw [List.getElem?_append_left (by simpa using h4l), List.getElem?_map, h4]; rfl
    · rintro y H' ⟨h1, rfl⟩
      refine ⟨h1, List.replicate sp .junk, by simp, ?_⟩
      have hf := flatC_set (S := 14) (x' := eTyp (typW (nth ts i) k)) (v := v) (j := j) (xs := ts.map eTyp) (i := i) (by simpa using hi) (hS ts) hj (by rw [List.getElem_map, ← hg]; exact he)
      rw [set_map] at hf
      rw [hf, List.map_set, List.set_append_left _ _ (by simp [hfl]; omega)]
  rcases hk with rfl | rfl | rfl | rfl
  · exact main 4 _ (by omega) rfl fun cs h1 h2 h3 => vehLoad_c cs _ _ _ h1 h2 h3 hc
  · exact main 8 _ (by omega) rfl fun cs h1 h2 _ => vehInt_c cs _ 7 8 4096 (by simp) h1 h2
  · exact main 9 _ (by omega) rfl fun cs h1 h2 _ => vehInt_c cs _ 8 9 4096 (by simp) h1 h2
  · exact main 1 _ (by omega) rfl fun cs h1 h2 _ => vehInt_c cs _ 9 1 10 (by simp) h1 h2
end Go.Proofs.YtccjopdlbolnhaaGreat.K
set_option linter.unusedVariables false
set_option linter.unusedSimpArgs false
namespace Go.Proofs.YtccjopdlbolnhaaGreat.K
open Go Go.AM Go.Proofs
set_option maxRecDepth 8000
set_option maxHeartbeats 8000000
/-- what of an instance its rules need -/
structure ISz (x : Inst) : Prop where
  plc : Plc x
  ord : x.orders.length ≤ 1000
  typ0 : 0 < x.types.length
  typ : x.types.length ≤ 1000
  ap : x.apart.length ≤ 1000
  be : x.before.length ≤ 1000
theorem refI_len {x : Inst} (h : ISz x) : (refI x 10).length ≤ 1048576 := by
  have e : (refI x 10).Perm (preI x) := by
    refine (List.perm_ext_iff_of_nodup ?_ (preI_nodup h.plc)).2 fun v => by rw [mem_refI, mem_preI h.plc]
    exact (refI_sorted x 10).imp fun {a b} hh e => by subst e; rw [cmpT_lt] at hh; omega
  rw [e.length_eq]
  have h1 := itOs_len x x.orders.length
  have h2 := itT_len (k := x.types.length)
  have h3 := itA_len x x.apart.length
  have h4 := itB_len x x.before.length
  have := h.ord
  have := h.typ
  have := h.ap
  have := h.be
  simp only [preI, List.length_append]; omega
theorem itemsC (x : Inst) (h : ISz x) : ACalls Tryz.prog 11 [.p (eInst x)] [] fun y H' => y = .p (.list false ((refI x 10).map eItm)) ∧ H' = [] := items_c x h.plc h.ord ⟨h.typ0, h.typ⟩ h.ap h.be
theorem has49_c (x : Inst) (h : ISz x) (v : Itm) : ACalls Tryz.prog 12 [.p (eInst x), .p (eItm v)] [] fun y H' => y = .p (.bool (hasI x v)) ∧ H' = [] := by
  refine acalls_pure (fn := Tryz.f12) Tryz.func12 rfl isF12 ?_
  simp (disch := omega) only [Tryz.f12, go_sem, seval, reduceCtorEq, ↓reduceIte]
  refine awp_drawnA mixed (by kernel_rfl) (by kernel_rfl) ?_
  simp (disch := omega) only [go_sem, seval, reduceCtorEq, ↓reduceIte]
  refine exq_call (itemsC x h) ?_
  simp (disch := omega) only [go_sem, seval, reduceCtorEq, ↓reduceIte]
  refine exq_call (contains49_c (refI x 10) false v (refI_len h)) ?_
  simp (disch := omega) only [go_sem, seval, reduceCtorEq, ↓reduceIte]
  simp [mem_refI]
end Go.Proofs.YtccjopdlbolnhaaGreat.K
set_option linter.unusedVariables false
set_option linter.unusedSimpArgs false
namespace Go.Proofs.YtccjopdlbolnhaaGreat.K
open Go Go.AM Go.Proofs
set_option maxRecDepth 8000
set_option maxHeartbeats 2000000
/-- an order without the rules of a list -/
def ordL (o : Ord) (at' : Int) (l : List Itm) : Ord := { o with
  pick := { o.pick with cls := if (⟨1, at'⟩ : Itm) ∈ l then 4096 else o.pick.cls }
  drp := { o.drp with cls := if (⟨2, at'⟩ : Itm) ∈ l then 4096 else o.drp.cls }
  skills := if (⟨4, at'⟩ : Itm) ∈ l then 0 else o.skills
  penalty := if (⟨10, at'⟩ : Itm) ∈ l then 0 else o.penalty }
def typL (t : Typ) (at' : Int) (l : List Itm) : Typ := { t with
  cap_c := if (⟨3, at'⟩ : Itm) ∈ l then false else t.cap_c
  cap := if (⟨3, at'⟩ : Itm) ∈ l then List.replicate t.cap.length 1000 else t.cap
  cls := if (⟨7, at'⟩ : Itm) ∈ l then 4096 else t.cls
  drive := if (⟨8, at'⟩ : Itm) ∈ l then 4096 else t.drive
  count := if (⟨9, at'⟩ : Itm) ∈ l then 10 else t.count }
theorem ordL_nil (o a) : ordL o a [] = o := by simp [ordL]
theorem typL_nil (o a) : typL o a [] = o := by simp [typL]
theorem ordL_snoc (o a l) (v : Itm) : ordL o a (l ++ [v]) = if v.a = a then ordW (ordL o a l) v.kind else ordL o a l := by
  obtain ⟨k, b⟩ := v
  by_cases h : b = a
  · subst h
    by_cases h1 : k = 1
    · subst h1; simp [ordL, ordW, itm_eq]
    · by_cases h2 : k = 2
      · subst h2; simp [ordL, ordW, itm_eq]
      · by_cases h4 : k = 4
        · subst h4; simp [ordL, ordW, itm_eq]
        · by_cases h10 : k = 10
          · subst h10; simp [ordL, ordW, itm_eq]
          · have e1 : ¬ 1 = k := fun h => h1 h.symm
            have e2 : ¬ 2 = k := fun h => h2 h.symm
            have e4 : ¬ 4 = k := fun h => h4 h.symm
            have e10 : ¬ 10 = k := fun h => h10 h.symm
            simp [ordL, ordW, itm_eq, h1, h2, h4, h10, e1, e2, e4, e10]
  · have e : ¬ a = b := fun h2 => h h2.symm
    simp [ordL, itm_eq, h, e]
theorem typL_snoc (o a l) (v : Itm) : typL o a (l ++ [v]) = if v.a = a then typW (typL o a l) v.kind else typL o a l := by
  obtain ⟨k, b⟩ := v
  by_cases h : b = a
  · subst h
    by_cases h1 : k = 3
    · subst h1; simp [typL, typW, itm_eq]; split <;> simp
    · by_cases h2 : k = 7
      · subst h2; simp [typL, typW, itm_eq]
      · by_cases h4 : k = 8
        · subst h4; simp [typL, typW, itm_eq]
        · by_cases h10 : k = 9
          · subst h10; simp [typL, typW, itm_eq]
          · have e1 : ¬ 3 = k := fun h => h1 h.symm
            have e2 : ¬ 7 = k := fun h => h2 h.symm
            have e4 : ¬ 8 = k := fun h => h4 h.symm
            have e10 : ¬ 9 = k := fun h => h10 h.symm
            simp [typL, typW, itm_eq, h1, h2, h4, h10, e1, e2, e4, e10]
  · have e : ¬ a = b := fun h2 => h h2.symm
    simp [typL, itm_eq, h, e]
def ordsL (os : List Ord) (w : List Itm) : List Ord := (List.range os.length).map fun (i : Nat) => ordL (nth os i) i w
def typsL (ts : List Typ) (w : List Itm) : List Typ := (List.range ts.length).map fun (i : Nat) => typL (nth ts i) i w
theorem ordsL_len (os w) : (ordsL os w).length = os.length := by simp [ordsL]
theorem typsL_len (os w) : (typsL os w).length = os.length := by simp [typsL]
theorem nth_map_range {α : Type} [Inhabited α] {f : Nat → α} {n i : Nat} (h : i < n) : nth ((List.range n).map f) i = f i := by
  rw [nth_get (by simpa using h)]; simp
theorem ordsL_nth {os w i} (h : i < os.length) : nth (ordsL os w) i = ordL (nth os i) i w := nth_map_range h
theorem typsL_nth {os w i} (h : i < os.length) : nth (typsL os w) i = typL (nth os i) i w := nth_map_range h
theorem map_range_nth {α : Type} [Inhabited α] (l : List α) : (List.range l.length).map (fun i => nth l i) = l := by
  apply List.ext_getElem
  · simp
  · intro i h1 h2
    simp [nth_get h2]
theorem ordsL_nil (os) : ordsL os [] = os := by simp only [ordsL, ordL_nil]; exact map_range_nth os
theorem typsL_nil (os) : typsL os [] = os := by simp only [typsL, typL_nil]; exact map_range_nth os
theorem ordW_other {o : Ord} {k : Int} (h : k = 3 ∨ k = 7 ∨ k = 8 ∨ k = 9 ∨ k = 5 ∨ k = 6) : ordW o k = o := by
  unfold ordW
  rw [if_neg (by omega), if_neg (by omega), if_neg (by omega), if_neg (by omega)]
theorem typW_other {o : Typ} {k : Int} (h : k = 1 ∨ k = 2 ∨ k = 4 ∨ k = 10 ∨ k = 5 ∨ k = 6) : typW o k = o := by
  unfold typW
  rw [if_neg (by omega), if_neg (by omega), if_neg (by omega), if_neg (by omega)]
theorem ordsL_set {os : List Ord} {w : List Itm} {v : Itm} {i : Nat} (hi : i < os.length) (hv : v.a = (i : Int)) : (ordsL os w).set i (ordW (nth (ordsL os w) i) v.kind) = ordsL os (w ++ [v]) := by
  rw [ordsL_nth hi]
  apply List.ext_getElem
  · simp [ordsL]
  · intro j h1 h2
    have hj : j < os.length := by simpa [ordsL] using h2
    rw [List.getElem_set]
    simp only [ordsL, List.getElem_map, List.getElem_range, ordL_snoc, hv]
    by_cases e : i = j
    · subst e; simp
    · have : ¬ (i : Int) = j := by omega
      simp [e, this]
theorem typsL_set {os : List Typ} {w : List Itm} {v : Itm} {i : Nat} (hi : i < os.length) (hv : v.a = (i : Int)) : (typsL os w).set i (typW (nth (typsL os w) i) v.kind) = typsL os (w ++ [v]) := by
  rw [typsL_nth hi]
  apply List.ext_getElem
  · simp [typsL]
  · intro j h1 h2
    have hj : j < os.length := by simpa [typsL] using h2
    rw [List.getElem_set]
    simp only [typsL, List.getElem_map, List.getElem_range, typL_snoc, hv]
    by_cases e : i = j
    · subst e; simp
    · have : ¬ (i : Int) = j := by omega
      simp [e, this]
theorem ordsL_other {os : List Ord} {w : List Itm} {v : Itm} (h : v.kind = 3 ∨ v.kind = 7 ∨ v.kind = 8 ∨ v.kind = 9 ∨ v.kind = 5 ∨ v.kind = 6) : ordsL os (w ++ [v]) = ordsL os w := by
  simp only [ordsL, ordL_snoc, ordW_other h, ite_self]
theorem typsL_other {os : List Typ} {w : List Itm} {v : Itm} (h : v.kind = 1 ∨ v.kind = 2 ∨ v.kind = 4 ∨ v.kind = 10 ∨ v.kind = 5 ∨ v.kind = 6) : typsL os (w ++ [v]) = typsL os w := by
  simp only [typsL, typL_snoc, typW_other h, ite_self]
/-- the instance without the rules of a list -/
def withoutI (x : Inst) (l : List Itm) : Inst := ⟨x.net, false, typsL x.types l, false, ordsL x.orders l, false, keepP x.apart l 5 x.apart.length, false, keepP x.before l 6 x.before.length⟩
def errAt (x : Inst) (l : List Itm) (i : Nat) : Int := if hasI x (nth l i) = true then (if nth l i ∈ l.take i then 6 else 0) else 7
def errW (x : Inst) (l : List Itm) : Int := (((List.range l.length).map (errAt x l)).find? fun e => decide (e ≠ 0)).getD 0
theorem errW_at {x : Inst} {l : List Itm} {k : Nat} (hk : k < l.length) (h0 : ∀ j, j < k → errAt x l j = 0) (h : errAt x l k ≠ 0) : errW x l = errAt x l k := by
  have : ((List.range l.length).map (errAt x l)).find? (fun e => decide (e ≠ 0)) = some (errAt x l k) := by
    rw [List.find?_eq_some_iff_getElem]
    refine ⟨by simpa using h, k, by simpa using hk, by simp, fun j hj => ?_⟩
    have := h0 j hj
    simp [this]
  rw [errW, this]; rfl
theorem errW_ok {x : Inst} {l : List Itm} (h : ∀ j, j < l.length → errAt x l j = 0) : errW x l = 0 := by
  have : ((List.range l.length).map (errAt x l)).find? (fun e => decide (e ≠ 0)) = none := by
    rw [List.find?_eq_none]
    intro e he
    obtain ⟨j, hj, rfl⟩ := List.mem_map.1 he
    have := h j (by simpa using hj)
    simp [this]
  rw [errW, this]; rfl
theorem errAt_zero {x l i} : errAt x l i = 0 ↔ hasI x (nth l i) = true ∧ nth l i ∉ l.take i := by
  unfold errAt
  split
  · split <;> simp_all
  · simp_all
theorem errW_zero {x : Inst} {l : List Itm} : errW x l = 0 ↔ ∀ j, j < l.length → errAt x l j = 0 := by
  refine ⟨fun h j hj => ?_, errW_ok⟩
  induction j using Nat.strongRecOn with
  | ind j ih =>
    by_cases h2 : errAt x l j = 0
    · exact h2
    · rw [errW_at hj (fun i hi => ih i hi (by omega)) h2] at h; exact h
theorem errW_iff {x : Inst} {l : List Itm} : errW x l = 0 ↔ (∀ v ∈ l, hasI x v = true) ∧ l.Nodup := by
  rw [errW_zero]
  constructor
  · intro h
    refine ⟨fun v hv => ?_, ?_⟩
    · obtain ⟨j, hj, rfl⟩ := List.mem_iff_getElem.1 hv
      have := (errAt_zero.1 (h j hj)).1
      rwa [nth_get hj] at this
    · rw [List.Nodup, List.pairwise_iff_getElem]
      intro i j hi hj hij e
      have := (errAt_zero.1 (h j hj)).2
      rw [nth_get hj, ← e] at this
      exact this (List.mem_iff_getElem.2 ⟨i, by simp; omega, by simp⟩)
  · rintro ⟨h1, h2⟩ j hj
    refine errAt_zero.2 ⟨h1 _ (nth_mem hj), fun hm => ?_⟩
    obtain ⟨i, hi, e⟩ := List.mem_iff_getElem.1 hm
    have hi2 : i < j := by simp at hi; omega
    rw [List.Nodup, List.pairwise_iff_getElem] at h2
    refine h2 i j (by omega) hj hi2 ?_
    rw [nth_get hj] at e
    rw [← e]; simp
def zeroI : Inst := ⟨⟨true, [], true, []⟩, true, [], true, [], true, [], true, []⟩
def resW (x : Inst) (l : List Itm) : Inst := if errW x l = 0 then withoutI x l else zeroI
end Go.Proofs.YtccjopdlbolnhaaGreat.K
set_option linter.unusedVariables false
set_option linter.unusedSimpArgs false
namespace Go.Proofs.YtccjopdlbolnhaaGreat.K
open Go Go.AM Go.Proofs
set_option maxRecDepth 8000
set_option maxHeartbeats 2000000
theorem flt_nil {n word sm l i} : flt n word sm l i = [] ↔ okP n (nth l i) = true ∧ (l.take i).any (sm (nth l i)) = false := by
  unfold flt; split <;> (try split) <;> simp_all
theorem fltU_nil {n word sm l} : fltU n word sm l l.length = [] ↔ l.length ≤ 16 ∧ (∀ p ∈ l, okP n p = true) ∧ l.Pairwise (fun p q => sm q p = false) := by
  rw [fltU, List.append_eq_nil_iff, List.flatMap_eq_nil_iff]
  refine and_congr (by unfold hdr; split <;> simp <;> omega) ?_
  simp only [List.mem_range, flt_nil]
  constructor
  · intro h
    refine ⟨fun p hp => ?_, ?_⟩
    · obtain ⟨i, hi, rfl⟩ := List.mem_iff_getElem.1 hp
      have := (h i hi).1
      rwa [nth_get hi] at this
    · rw [List.pairwise_iff_getElem]
      intro i j hi hj hij
      have := (h j hj).2
      rw [List.any_eq_false, nth_get hj] at this
      have h2 := this l[i] (List.mem_iff_getElem.2 ⟨i, by simp; omega, by simp⟩)
      simpa using h2
  · rintro ⟨h1, h2⟩ i hi
    refine ⟨h1 _ (nth_mem hi), ?_⟩
    rw [List.any_eq_false]
    intro p hp
    obtain ⟨j, hj, rfl⟩ := List.mem_iff_getElem.1 hp
    rw [List.pairwise_iff_getElem] at h2
    have hji : j < i := by simp at hj; omega
    have := h2 j i (by omega) hi hji
    rw [nth_get hi, List.getElem_take, this]; simp
theorem chk_nil {n : Int} {ap be : List (Int × Int)} : chk n ap be = [] ↔ (ap.length ≤ 16 ∧ (∀ p ∈ ap, okP n p = true) ∧ ap.Pairwise (fun p q => decide (q = p ∨ (q.1 = p.2 ∧ q.2 = p.1)) = false)) ∧ (be.length ≤ 16 ∧ (∀ p ∈ be, okP n p = true) ∧ be.Pairwise (fun p q => decide (q = p) = false)) := by
  rw [chk, List.append_eq_nil_iff, fltU_nil, fltU_nil]
theorem keepP_sub (l w kind) : ∀ k, k ≤ l.length → (keepP l w kind k).Sublist (l.take k)
  | 0, _ => by simp [keepP]
  | k + 1, h => by
    rw [keepP_succ, List.take_succ_eq_append_getElem (by omega)]
    refine (keepP_sub l w kind k (by omega)).append ?_
    split
    · simp
    · rw [nth_get (by omega)]; exact List.Sublist.refl _
theorem keepP_subl (l w kind) : (keepP l w kind l.length).Sublist l := by
  have := keepP_sub l w kind l.length (Nat.le_refl _)
  rwa [List.take_length] at this
theorem rng_iff {n lo hi : Int} : rng n lo hi = true ↔ lo ≤ n ∧ n ≤ hi := by simp [rng]
theorem capOk_iff {l : List Int} {d : Int} : capOk l d = true ↔ (1 ≤ l.length ∧ l.length ≤ 3) ∧ (l.length : Int) = d ∧ ∀ n ∈ l, 0 ≤ n ∧ n ≤ 1000 := by
  simp only [capOk, Bool.and_eq_true, decide_eq_true_eq, List.all_eq_true, rng_iff]
  constructor
  · rintro ⟨⟨h1, h2⟩, h3⟩; exact ⟨by omega, h2, h3⟩
  · rintro ⟨h1, h2, h3⟩; exact ⟨⟨by omega, h2⟩, h3⟩
theorem typL_cap_len (t a l) : (typL t a l).cap.length = t.cap.length := by simp only [typL]; split <;> simp
theorem typL_capOk {t a l d} (h : capOk t.cap d = true) : capOk (typL t a l).cap d = true := by
  rw [capOk_iff] at h ⊢
  rw [typL_cap_len]
  refine ⟨h.1, h.2.1, fun n hn => ?_⟩
  simp only [typL] at hn
  split at hn
  · rw [List.eq_of_mem_replicate hn]; omega
  · exact h.2.2 n hn
theorem dimsOf_typsL (ts l) : dimsOf (typsL ts l) = dimsOf ts := by
  unfold dimsOf
  rw [typsL_len]
  split
  · rfl
  · rw [typsL_nth (by omega), typL_cap_len]
theorem typOk_L {n : Net} {ts : List Typ} {l : List Itm} {i : Nat} (hi : i < ts.length) (h : typOk n ts i) : typOk n (typsL ts l) i := by
  unfold typOk at h ⊢
  rw [typsL_nth hi, dimsOf_typsL]
  obtain ⟨⟨⟨⟨⟨⟨⟨⟨h1, h2⟩, h3⟩, h4⟩, h5⟩, h6⟩, h7⟩, h8⟩, h9⟩ := h
  refine ⟨⟨⟨⟨⟨⟨⟨⟨h1, fun j hj => ?_⟩, ?_⟩, h4⟩, typL_capOk h5⟩, h6⟩, ?_⟩, ?_⟩, h9⟩
  · rw [typsL_nth (by omega)]; exact h2 j hj
  · simp only [typL]; split
    · rfl
    · exact h3
  · simp only [rng_iff, typL] at h7 ⊢
    split <;> omega
  · simp only [rng_iff, typL] at h8 ⊢
    split <;> omega
theorem stpOk_win {s : Stp} (h : stpOk s = true) (hp : 0 ≤ s.place) : stpOk { s with cls := 4096 } = true := by
  rw [stpOk_iff] at h ⊢
  simp only
  omega
theorem hasI_ord {x : Inst} {k a : Int} (hk : k = 1 ∨ k = 2 ∨ k = 4 ∨ k = 10) : hasI x ⟨k, a⟩ = true ↔ actB x a = true ∧ ordB (nth x.orders a.toNat) k = true := by
  simp only [hasI]; rw [if_pos hk, Bool.and_eq_true]
theorem OrdOk_L {np : Nat} {d ty : Int} {os : List Ord} {l : List Itm} {i : Nat} (hi : i < os.length) (h : OrdOk np d ty os i) (h1 : (⟨1, i⟩ : Itm) ∈ l → 0 ≤ (nth os i).pick.place) (h2 : (⟨2, i⟩ : Itm) ∈ l → 0 ≤ (nth os i).drp.place) : OrdOk np d ty (ordsL os l) i := by
  constructor
  · rw [ordsL_nth hi]; exact h.name
  · intro j hj; rw [ordsL_nth hi, ordsL_nth (by omega)]; exact h.twin j hj
  · rw [ordsL_nth hi]; exact h.load
  · rw [ordsL_nth hi]; exact h.pick
  · rw [ordsL_nth hi]; exact h.drp
  · rw [ordsL_nth hi]; exact h.one
  · rw [ordsL_nth hi]; simp only [ordL]; split
    · rename_i hm; exact stpOk_win h.pstp (h1 hm)
    · exact h.pstp
  · rw [ordsL_nth hi]; simp only [ordL]; split
    · rename_i hm; exact stpOk_win h.dstp (h2 hm)
    · exact h.dstp
  · rw [ordsL_nth hi]; have := h.skills; simp only [ordL]; split <;> omega
  · rw [ordsL_nth hi]
    have := h.arg
    simp only [argOk, Bool.and_eq_true, decide_eq_true_eq, rng_iff] at this ⊢
    refine ⟨⟨?_, this.1.2⟩, this.2⟩
    have := this.1.1
    simp only [ordL]
    split <;> omega
theorem without_ok {x : Inst} {l : List Itm} (h : InstOk x) (hI : ∀ v ∈ l, hasI x v = true) : InstOk (withoutI x l) := by
  have ht := h.types
  have ho := h.orders
  obtain ⟨⟨a1, a2, a3⟩, b1, b2, b3⟩ := chk_nil.1 h.rules
  refine ⟨h.net, ⟨?_, fun i hi => ?_⟩, ⟨?_, fun i hi => ?_⟩, ?_⟩
  · show rng (typsL x.types l).length 1 6 = true
    rw [typsL_len]; exact ht.1
  · have hi2 : i < x.types.length := by simpa [withoutI, typsL_len] using hi
    exact typOk_L hi2 (ht.2 i hi2)
  · show (ordsL x.orders l).length ≤ 10
    rw [ordsL_len]; exact ho.1
  · have hi2 : i < x.orders.length := by simpa [withoutI, ordsL_len] using hi
    show OrdOk x.net.places.length (dimsOf (typsL x.types l)) (typsL x.types l).length (ordsL x.orders l) i
    rw [dimsOf_typsL, typsL_len]
    refine OrdOk_L hi2 (ho.2 i hi2) (fun hm => ?_) (fun hm => ?_)
    · have := ((hasI_ord (by omega)).1 (hI _ hm)).2
      simpa [ordB] using this
    · have := ((hasI_ord (by omega)).1 (hI _ hm)).2
      simpa [ordB] using this
  · show chk ((ordsL x.orders l).length : Int) (keepP x.apart l 5 x.apart.length) (keepP x.before l 6 x.before.length) = []
    rw [ordsL_len, chk_nil]
    have sa := keepP_subl x.apart l 5
    have sb := keepP_subl x.before l 6
    have la := sa.length_le
    have lb := sb.length_le
    exact ⟨⟨by omega, fun p hp => a2 p (sa.subset hp), a3.sublist sa⟩, ⟨by omega, fun p hp => b2 p (sb.subset hp), b3.sublist sb⟩⟩
theorem inst_sz {x : Inst} (h : InstOk x) : ISz x := by
  have hf := instFacts h
  have ht := rng_iff.1 h.types.1
  obtain ⟨⟨a1, _, _⟩, b1, _, _⟩ := chk_nil.1 h.rules
  have := h.orders.1
  exact ⟨hf.plc, by omega, by omega, by omega, by omega, by omega⟩
theorem inst_cap {x : Inst} (h : InstOk x) : ∀ t ∈ x.types, t.cap.length ≤ 1048576 := fun t hm => by
  obtain ⟨i, hi, rfl⟩ := List.mem_iff_getElem.1 hm
  have := h.types.2 i hi
  have h5 := (capOk_iff.1 this.1.1.1.1.2).1
  rw [nth_get hi] at h5
  omega
end Go.Proofs.YtccjopdlbolnhaaGreat.K
set_option linter.unusedVariables false
set_option linter.unusedSimpArgs false
namespace Go.Proofs.YtccjopdlbolnhaaGreat.K
open Go Go.AM Go.Proofs
set_option maxRecDepth 8000
set_option maxHeartbeats 8000000
theorem without_c (x : Inst) (hs : ISz x) (hcap : ∀ t ∈ x.types, t.cap.length ≤ 1048576) (l : List Itm) (c : Bool) (hl : l.length ≤ 1048576) : ACalls Tryz.prog 7 [.p (eInst x), .p (.list c (l.map eItm))] [] fun y H' => y = .tup [.p (eInst (resW x l)), .p (.int .i64 (errW x l))] ∧ H' = [] := by
  have s1 := hs.ord
  have s2 := hs.typ
  have s3 := hs.ap
  have s4 := hs.be
  have hrl := refI_len hs
  refine acalls_weak [27] (fn := Tryz.f7) Tryz.func7 rfl isF7 ?_
  simp (disch := omega) only [Tryz.f7, go_sem, seval, reduceCtorEq, ↓reduceIte]
  refine (itemsC x hs).use ?_
  simp (disch := omega) only [go_sem, seval, reduceCtorEq, ↓reduceIte]
  have zI : eInst zeroI = .agg [.list true [], .list true [], .list true [], .list true [], .list true [], .list true []] := rfl
  refine awp_forC [10] [1, 2, 4, 6, 13, 14] (fun k : Nat => [(15, .p (.int .i64 k))]) (fun _ => [instO x, instO zeroI]) (fun k => k ≤ l.length ∧ ∀ j, j < k → errAt x l j = 0) (fun k => l.length - k) 0 (by simp) (Weak.mk ?_) ?_
  · simp (disch := omega) only [instO, zeroI, List.map_nil, go_sem, seval, reduceCtorEq, ↓reduceIte]
  · rintro k ⟨hk, hno⟩
    simp (disch := omega) only [instO, zeroI, List.map_nil, go_sem, seval, reduceCtorEq, ↓reduceIte]
    refine acond_b (fun h => ?_) (fun h => ?_) <;> (try simp only [decide_eq_true_eq, decide_eq_false_iff_not] at h) <;> simp (disch := omega) only [Sh.out h, go_sem, seval, reduceCtorEq, ↓reduceIte]
    · have hk2 : k < l.length := by omega
      refine (contains49_c (refI x 10) false (nth l k) hrl).use ?_
      simp (disch := omega) only [go_sem, seval, reduceCtorEq, ↓reduceIte]
      refine acond_b (fun h2 => ?_) (fun h2 => ?_) <;> (try simp only [decide_eq_true_eq, decide_eq_false_iff_not] at h2) <;> simp (disch := omega) only [Sh.out h2, zI, go_sem, seval, reduceCtorEq, ↓reduceIte]
      · have h3 : hasI x (nth l k) = false := by rw [mem_refI] at h2; simpa using h2
        have e0 : errAt x l k = 7 := by rw [errAt, h3]; rfl
        have e : errW x l = 7 := by rw [errW_at hk2 hno (by rw [e0]; decide), e0]
        have r : resW x l = zeroI := by rw [resW, e]; rfl
        simp only [e, r, zeroI, List.map_nil]
        exact ⟨_, _, Weak.mk (by simp (disch := omega) only [go_sem, seval, reduceCtorEq, ↓reduceIte]), rfl, rfl⟩
      · have h3 : hasI x (nth l k) = true := by rw [Classical.not_not, mem_refI] at h2; exact h2
        refine awp_drawnA mixed (by kernel_rfl) (by kernel_rfl) ?_
        simp (disch := omega) only [go_sem, seval, reduceCtorEq, ↓reduceIte]
        refine exq_call (contains49_c (l.take k) _ (nth l k) (by simp; omega)) ?_
        simp (disch := omega) only [go_sem, seval, reduceCtorEq, ↓reduceIte]
        refine acond_b (fun h4 => ?_) (fun h4 => ?_) <;> (try simp only [decide_eq_true_eq, decide_eq_false_iff_not] at h4) <;> simp (disch := omega) only [Sh.out h4, go_sem, seval, reduceCtorEq, ↓reduceIte]
        · have e0 : errAt x l k = 6 := by rw [errAt, if_pos h3, if_pos h4]
          have e : errW x l = 6 := by rw [errW_at hk2 hno (by rw [e0]; decide), e0]
          have r : resW x l = zeroI := by rw [resW, e]; rfl
          simp only [e, r, zeroI, List.map_nil]
          exact ⟨_, _, Weak.mk (by simp (disch := omega) only [go_sem, seval, reduceCtorEq, ↓reduceIte]), rfl, rfl⟩
        · exact ⟨k + 1, ⟨by omega, upto_iff.2 ⟨hno, errAt_zero.2 ⟨h3, h4⟩⟩⟩, by omega, Weak.mk (by simp (disch := omega) only [instO, zeroI, List.map_nil, go_sem, seval, reduceCtorEq, ↓reduceIte])⟩
    · have hkl : k = l.length := by omega
      subst hkl
      have e : errW x l = 0 := errW_ok hno
      have r : resW x l = withoutI x l := by rw [resW, if_pos e]
      rw [e, r]
      clear hk h
      refine awp_joinR [1, 2, 4] (fun _ : Unit => []) (fun _ => [.cells [.p (.list x.net.places_c (x.net.places.map eS)), .p (.list x.net.arcs_c (x.net.arcs.map eArc)), .sl 2 0 x.types.length x.types.length, .sl 3 0 x.orders.length x.orders.length, .p (.list x.apart_c (x.apart.map eP)), .p (.list x.before_c (x.before.map eP))], instO zeroI, .elems 14 (x.types.map eTyp), .elems 16 (x.orders.map eOrd)]) (fun _ => True) ?_ ?_
      · refine awp_tree (.cons 0 (.cons 1 (.cons 2 (.cons 3 (.cons 4 (.cons 5 (.cons 6 (.cons 7 (.cons 8 (.cons 9 .nil .nil) .nil) .nil) .nil) (.cons 6 (.cons 5 (.cons 7 (.cons 8 (.cons 9 .nil .nil) .nil) .nil) .nil) .nil)) .nil) .nil) (.cons 3 (.cons 2 (.cons 4 (.cons 5 (.cons 6 (.cons 7 (.cons 8 (.cons 9 .nil .nil) .nil) .nil) .nil) (.cons 6 (.cons 5 (.cons 7 (.cons 8 (.cons 9 .nil .nil) .nil) .nil) .nil) .nil)) .nil) (.cons 4 (.cons 2 (.cons 5 (.cons 6 (.cons 7 (.cons 8 (.cons 9 .nil .nil) .nil) .nil) .nil) (.cons 6 (.cons 5 (.cons 7 (.cons 8 (.cons 9 .nil .nil) .nil) .nil) .nil) .nil)) .nil) .nil)) .nil)) (.cons 3 (.cons 1 (.cons 2 (.cons 4 (.cons 5 (.cons 6 (.cons 7 (.cons 8 (.cons 9 .nil .nil) .nil) .nil) .nil) (.cons 6 (.cons 5 (.cons 7 (.cons 8 (.cons 9 .nil .nil) .nil) .nil) .nil) .nil)) .nil) (.cons 4 (.cons 2 (.cons 5 (.cons 6 (.cons 7 (.cons 8 (.cons 9 .nil .nil) .nil) .nil) .nil) (.cons 6 (.cons 5 (.cons 7 (.cons 8 (.cons 9 .nil .nil) .nil) .nil) .nil) .nil)) .nil) .nil)) (.cons 4 (.cons 1 (.cons 2 (.cons 5 (.cons 6 (.cons 7 (.cons 8 (.cons 9 .nil .nil) .nil) .nil) .nil) (.cons 6 (.cons 5 (.cons 7 (.cons 8 (.cons 9 .nil .nil) .nil) .nil) .nil) .nil)) .nil) .nil) .nil)) .nil)) (.cons 3 (.cons 0 (.cons 1 (.cons 2 (.cons 4 (.cons 5 (.cons 6 (.cons 7 (.cons 8 (.cons 9 .nil .nil) .nil) .nil) .nil) (.cons 6 (.cons 5 (.cons 7 (.cons 8 (.cons 9 .nil .nil) .nil) .nil) .nil) .nil)) .nil) (.cons 4 (.cons 2 (.cons 5 (.cons 6 (.cons 7 (.cons 8 (.cons 9 .nil .nil) .nil) .nil) .nil) (.cons 6 (.cons 5 (.cons 7 (.cons 8 (.cons 9 .nil .nil) .nil) .nil) .nil) .nil)) .nil) .nil)) (.cons 4 (.cons 1 (.cons 2 (.cons 5 (.cons 6 (.cons 7 (.cons 8 (.cons 9 .nil .nil) .nil) .nil) .nil) (.cons 6 (.cons 5 (.cons 7 (.cons 8 (.cons 9 .nil .nil) .nil) .nil) .nil) .nil)) .nil) .nil) .nil)) (.cons 4 (.cons 0 (.cons 1 (.cons 2 (.cons 5 (.cons 6 (.cons 7 (.cons 8 (.cons 9 .nil .nil) .nil) .nil) .nil) (.cons 6 (.cons 5 (.cons 7 (.cons 8 (.cons 9 .nil .nil) .nil) .nil) .nil) .nil)) .nil) .nil) .nil) .nil)) .nil)) mixed (by kernel_rfl) ?_
        have cT : ACalls Tryz.prog 15 [.p (.list x.types_c (x.types.map eTyp))] [] fun y H' => y = .sl 0 0 x.types.length x.types.length ∧ H' = [.elems 14 (x.types.map eTyp)] := cloneTyps_own x.types x.types_c (by omega)
        have cO : ACalls Tryz.prog 16 [.p (.list x.orders_c (x.orders.map eOrd))] [] fun y H' => y = .sl 0 0 x.orders.length x.orders.length ∧ H' = [.elems 16 (x.orders.map eOrd)] := cloneOrds_own x.orders x.orders_c (by omega)
        repeat' first
          | refine akids_two ?_ ?_
          | (refine cT.useF ?_; simp (disch := omega) only [go_sem, seval, reduceCtorEq, ↓reduceIte])
          | (refine cO.useF ?_; simp (disch := omega) only [go_sem, seval, reduceCtorEq, ↓reduceIte])
          | exact ⟨(), Weak.mk (by simp (disch := omega) only [instO, zeroI, List.map_nil, go_sem, seval, reduceCtorEq, ↓reduceIte])⟩
          | simp (disch := omega) only [go_sem, seval, reduceCtorEq, ↓reduceIte]
      · rintro _ _
        simp (disch := omega) only [instO, zeroI, List.map_nil, go_sem, seval, reduceCtorEq, ↓reduceIte]
        have lT := typsL_len x.types
        have lO := ordsL_len x.orders
        have hcap2 : ∀ k i, i < x.types.length → (nth (typsL x.types (l.take k)) i).cap.length ≤ 1048576 := fun k i hi => by
          rw [typsL_nth hi]
          have := hcap _ (nth_mem hi)
          simp only [typL]
          split <;> simp [this]
        refine awp_forC [26, 27] [1, 2, 4, 42, 43] (fun k : Nat => [(44, .p (.int .i64 k))]) (fun k => [.cells [.p (.list x.net.places_c (x.net.places.map eS)), .p (.list x.net.arcs_c (x.net.arcs.map eArc)), .sl 2 0 x.types.length x.types.length, .sl 3 0 x.orders.length x.orders.length, .p (.list x.apart_c (x.apart.map eP)), .p (.list x.before_c (x.before.map eP))], instO zeroI, .elems 14 ((typsL x.types (l.take k)).map eTyp), .elems 16 ((ordsL x.orders (l.take k)).map eOrd)]) (fun k => k ≤ l.length) (fun k => l.length - k) 0 (by simp) (Weak.mk ?_) ?_
        · simp (disch := omega) only [instO, zeroI, List.map_nil, List.take_zero, typsL_nil, ordsL_nil, go_sem, seval, reduceCtorEq, ↓reduceIte]
        · rintro k hk
          simp (disch := omega) only [instO, zeroI, List.map_nil, go_sem, seval, reduceCtorEq, ↓reduceIte]
          have hhas : k < l.length → hasI x (nth l k) = true := fun h => (errAt_zero.1 (hno k h)).1
          have hsn : k < l.length → l.take (k + 1) = l.take k ++ [nth l k] := fun h => by rw [List.take_succ_eq_append_getElem h, nth_get h]
          refine acond_b (fun h => ?_) (fun h => ?_) <;> (try simp only [decide_eq_true_eq, decide_eq_false_iff_not] at h) <;> simp (disch := omega) only [Sh.out h, go_sem, seval, reduceCtorEq, ↓reduceIte]
          · have hk2 : k < l.length := by omega
            have hhas := hhas hk2
            have hsn := hsn hk2
            have hgo : ∀ kd a, nth l k = ⟨kd, a⟩ → (kd = 1 ∨ kd = 2 ∨ kd = 4 ∨ kd = 10) ∧ (0 ≤ a ∧ a < (x.orders.length : Int)) ∨ (kd = 3 ∨ kd = 7 ∨ kd = 8 ∨ kd = 9) ∧ (0 ≤ a ∧ a < (x.types.length : Int)) ∨ kd = 5 ∨ kd = 6 := fun kd a e => by
              rw [e] at hhas
              unfold hasI at hhas
              simp only at hhas
              split at hhas
              · rename_i hq; simp only [actB, Bool.and_eq_true, decide_eq_true_eq] at hhas; exact .inl ⟨hq, by omega⟩
              · split at hhas
                · rename_i hq; simp only [Bool.and_eq_true, decide_eq_true_eq] at hhas; exact .inr (.inl ⟨hq, by omega⟩)
                · split at hhas
                  · rename_i hq; exact .inr (.inr (.inl hq))
                  · split at hhas
                    · rename_i hq; exact .inr (.inr (.inr hq))
                    · simp at hhas
            generalize hv : nth l k = v at hgo hsn ⊢
            obtain ⟨kd, a⟩ := v
            rcases hgo kd a rfl with ⟨hkd, ha⟩ | ⟨hkd, ha⟩ | hkd
            · rcases hkd with rfl | rfl | rfl | rfl
              · have hmO : ((ordsL x.orders (l.take k)).map eOrd).length = x.orders.length := by rw [List.length_map, lO]
                have c9 := order49_c (ordsL x.orders (l.take k)) a.toNat 1 (by rw [lO]; omega)
                rw [ordsL_set (by omega) (v := ⟨1, a⟩) (by simp only; omega), ← hsn, lO, ← hmO] at c9
                have eT : typsL x.types (l.take (k + 1)) = typsL x.types (l.take k) := by rw [hsn]; exact typsL_other (by simp)
                simp (disch := omega) only [instO, zeroI, List.map_nil, go_sem, seval, reduceCtorEq, ↓reduceIte]
                refine awp_drawnS 7 mixed (by kernel_rfl) (by kernel_rfl) ?_
                simp (disch := omega) only [go_sem, seval, reduceCtorEq, ↓reduceIte]
                rw [← hmO]
                refine (ACalls.atE (ps := [.int .i64 1]) (o := 3) rfl c9 (by simp [lO])).useH ?_
                simp (disch := omega) only [List.set_cons_succ, List.set_cons_zero, go_sem, seval, reduceCtorEq, ↓reduceIte]
                refine ⟨k + 1, by omega, by omega, Weak.mk ?_⟩
                try simp only [List.length_map, lO]
                simp (disch := omega) only [instO, zeroI, List.map_nil, eT, go_sem, seval, reduceCtorEq, ↓reduceIte]
              · have hmO : ((ordsL x.orders (l.take k)).map eOrd).length = x.orders.length := by rw [List.length_map, lO]
                have c9 := order49_c (ordsL x.orders (l.take k)) a.toNat 2 (by rw [lO]; omega)
                rw [ordsL_set (by omega) (v := ⟨2, a⟩) (by simp only; omega), ← hsn, lO, ← hmO] at c9
                have eT : typsL x.types (l.take (k + 1)) = typsL x.types (l.take k) := by rw [hsn]; exact typsL_other (by simp)
                simp (disch := omega) only [instO, zeroI, List.map_nil, go_sem, seval, reduceCtorEq, ↓reduceIte]
                refine awp_drawnS 7 mixed (by kernel_rfl) (by kernel_rfl) ?_
                simp (disch := omega) only [go_sem, seval, reduceCtorEq, ↓reduceIte]
                rw [← hmO]
                refine (ACalls.atE (ps := [.int .i64 2]) (o := 3) rfl c9 (by simp [lO])).useH ?_
                simp (disch := omega) only [List.set_cons_succ, List.set_cons_zero, go_sem, seval, reduceCtorEq, ↓reduceIte]
                refine ⟨k + 1, by omega, by omega, Weak.mk ?_⟩
                try simp only [List.length_map, lO]
                simp (disch := omega) only [instO, zeroI, List.map_nil, eT, go_sem, seval, reduceCtorEq, ↓reduceIte]
              · have hmO : ((ordsL x.orders (l.take k)).map eOrd).length = x.orders.length := by rw [List.length_map, lO]
                have c9 := order49_c (ordsL x.orders (l.take k)) a.toNat 4 (by rw [lO]; omega)
                rw [ordsL_set (by omega) (v := ⟨4, a⟩) (by simp only; omega), ← hsn, lO, ← hmO] at c9
                have eT : typsL x.types (l.take (k + 1)) = typsL x.types (l.take k) := by rw [hsn]; exact typsL_other (by simp)
                simp (disch := omega) only [instO, zeroI, List.map_nil, go_sem, seval, reduceCtorEq, ↓reduceIte]
                refine awp_drawnS 7 mixed (by kernel_rfl) (by kernel_rfl) ?_
                simp (disch := omega) only [go_sem, seval, reduceCtorEq, ↓reduceIte]
                rw [← hmO]
                refine (ACalls.atE (ps := [.int .i64 4]) (o := 3) rfl c9 (by simp [lO])).useH ?_
                simp (disch := omega) only [List.set_cons_succ, List.set_cons_zero, go_sem, seval, reduceCtorEq, ↓reduceIte]
                refine ⟨k + 1, by omega, by omega, Weak.mk ?_⟩
                try simp only [List.length_map, lO]
                simp (disch := omega) only [instO, zeroI, List.map_nil, eT, go_sem, seval, reduceCtorEq, ↓reduceIte]
              · have hmO : ((ordsL x.orders (l.take k)).map eOrd).length = x.orders.length := by rw [List.length_map, lO]
                have c9 := order49_c (ordsL x.orders (l.take k)) a.toNat 10 (by rw [lO]; omega)
                rw [ordsL_set (by omega) (v := ⟨10, a⟩) (by simp only; omega), ← hsn, lO, ← hmO] at c9
                have eT : typsL x.types (l.take (k + 1)) = typsL x.types (l.take k) := by rw [hsn]; exact typsL_other (by simp)
                simp (disch := omega) only [instO, zeroI, List.map_nil, go_sem, seval, reduceCtorEq, ↓reduceIte]
                refine awp_drawnS 7 mixed (by kernel_rfl) (by kernel_rfl) ?_
                simp (disch := omega) only [go_sem, seval, reduceCtorEq, ↓reduceIte]
                rw [← hmO]
                refine (ACalls.atE (ps := [.int .i64 10]) (o := 3) rfl c9 (by simp [lO])).useH ?_
                simp (disch := omega) only [List.set_cons_succ, List.set_cons_zero, go_sem, seval, reduceCtorEq, ↓reduceIte]
                refine ⟨k + 1, by omega, by omega, Weak.mk ?_⟩
                try simp only [List.length_map, lO]
                simp (disch := omega) only [instO, zeroI, List.map_nil, eT, go_sem, seval, reduceCtorEq, ↓reduceIte]
            · rcases hkd with rfl | rfl | rfl | rfl
              · have hmT : ((typsL x.types (l.take k)).map eTyp).length = x.types.length := by rw [List.length_map, lT]
                have c9 := fun (H : List AM.Obj) (hH : H[2]? = some (.elems 14 ((typsL x.types (l.take k)).map eTyp))) => vehicle49_c (typsL x.types (l.take k)) a.toNat 3 (by simp) (by rw [lT]; omega) (hcap2 k a.toNat (by omega)) hH
                rw [typsL_set (by omega) (v := ⟨3, a⟩) (by simp only; omega), ← hsn, lT, ← hmT] at c9
                have eO : ordsL x.orders (l.take (k + 1)) = ordsL x.orders (l.take k) := by rw [hsn]; exact ordsL_other (by simp)
                simp (disch := omega) only [instO, zeroI, List.map_nil, go_sem, seval, reduceCtorEq, ↓reduceIte]
                refine awp_drawnS 7 mixed (by kernel_rfl) (by kernel_rfl) ?_
                simp (disch := omega) only [go_sem, seval, reduceCtorEq, ↓reduceIte]
                rw [← hmT]
                refine (c9 _ rfl).useH ?_
                simp (disch := omega) only [List.set_cons_succ, List.set_cons_zero, go_sem, seval, reduceCtorEq, ↓reduceIte]
                refine ⟨k + 1, by omega, by omega, Weak.mk ?_⟩
                try simp only [List.length_map, lT]
                simp (disch := omega) only [instO, zeroI, List.map_nil, eO, go_sem, seval, reduceCtorEq, ↓reduceIte]
              · have hmT : ((typsL x.types (l.take k)).map eTyp).length = x.types.length := by rw [List.length_map, lT]
                have c9 := fun (H : List AM.Obj) (hH : H[2]? = some (.elems 14 ((typsL x.types (l.take k)).map eTyp))) => vehicle49_c (typsL x.types (l.take k)) a.toNat 7 (by simp) (by rw [lT]; omega) (hcap2 k a.toNat (by omega)) hH
                rw [typsL_set (by omega) (v := ⟨7, a⟩) (by simp only; omega), ← hsn, lT, ← hmT] at c9
                have eO : ordsL x.orders (l.take (k + 1)) = ordsL x.orders (l.take k) := by rw [hsn]; exact ordsL_other (by simp)
                simp (disch := omega) only [instO, zeroI, List.map_nil, go_sem, seval, reduceCtorEq, ↓reduceIte]
                refine awp_drawnS 7 mixed (by kernel_rfl) (by kernel_rfl) ?_
                simp (disch := omega) only [go_sem, seval, reduceCtorEq, ↓reduceIte]
                rw [← hmT]
                refine (c9 _ rfl).useH ?_
                simp (disch := omega) only [List.set_cons_succ, List.set_cons_zero, go_sem, seval, reduceCtorEq, ↓reduceIte]
                refine ⟨k + 1, by omega, by omega, Weak.mk ?_⟩
                try simp only [List.length_map, lT]
                simp (disch := omega) only [instO, zeroI, List.map_nil, eO, go_sem, seval, reduceCtorEq, ↓reduceIte]
              · have hmT : ((typsL x.types (l.take k)).map eTyp).length = x.types.length := by rw [List.length_map, lT]
                have c9 := fun (H : List AM.Obj) (hH : H[2]? = some (.elems 14 ((typsL x.types (l.take k)).map eTyp))) => vehicle49_c (typsL x.types (l.take k)) a.toNat 8 (by simp) (by rw [lT]; omega) (hcap2 k a.toNat (by omega)) hH
                rw [typsL_set (by omega) (v := ⟨8, a⟩) (by simp only; omega), ← hsn, lT, ← hmT] at c9
                have eO : ordsL x.orders (l.take (k + 1)) = ordsL x.orders (l.take k) := by rw [hsn]; exact ordsL_other (by simp)
                simp (disch := omega) only [instO, zeroI, List.map_nil, go_sem, seval, reduceCtorEq, ↓reduceIte]
                refine awp_drawnS 7 mixed (by kernel_rfl) (by kernel_rfl) ?_
                simp (disch := omega) only [go_sem, seval, reduceCtorEq, ↓reduceIte]
                rw [← hmT]
                refine (c9 _ rfl).useH ?_
                simp (disch := omega) only [List.set_cons_succ, List.set_cons_zero, go_sem, seval, reduceCtorEq, ↓reduceIte]
                refine ⟨k + 1, by omega, by omega, Weak.mk ?_⟩
                try simp only [List.length_map, lT]
                simp (disch := omega) only [instO, zeroI, List.map_nil, eO, go_sem, seval, reduceCtorEq, ↓reduceIte]
              · have hmT : ((typsL x.types (l.take k)).map eTyp).length = x.types.length := by rw [List.length_map, lT]
                have c9 := fun (H : List AM.Obj) (hH : H[2]? = some (.elems 14 ((typsL x.types (l.take k)).map eTyp))) => vehicle49_c (typsL x.types (l.take k)) a.toNat 9 (by simp) (by rw [lT]; omega) (hcap2 k a.toNat (by omega)) hH
                rw [typsL_set (by omega) (v := ⟨9, a⟩) (by simp only; omega), ← hsn, lT, ← hmT] at c9
                have eO : ordsL x.orders (l.take (k + 1)) = ordsL x.orders (l.take k) := by rw [hsn]; exact ordsL_other (by simp)
                simp (disch := omega) only [instO, zeroI, List.map_nil, go_sem, seval, reduceCtorEq, ↓reduceIte]
                refine awp_drawnS 7 mixed (by kernel_rfl) (by kernel_rfl) ?_
                simp (disch := omega) only [go_sem, seval, reduceCtorEq, ↓reduceIte]
                rw [← hmT]
                refine (c9 _ rfl).useH ?_
                simp (disch := omega) only [List.set_cons_succ, List.set_cons_zero, go_sem, seval, reduceCtorEq, ↓reduceIte]
                refine ⟨k + 1, by omega, by omega, Weak.mk ?_⟩
                try simp only [List.length_map, lT]
                simp (disch := omega) only [instO, zeroI, List.map_nil, eO, go_sem, seval, reduceCtorEq, ↓reduceIte]
            · have eT : typsL x.types (l.take (k + 1)) = typsL x.types (l.take k) := by rw [hsn]; exact typsL_other (by simp only; omega)
              have eO : ordsL x.orders (l.take (k + 1)) = ordsL x.orders (l.take k) := by rw [hsn]; exact ordsL_other (by simp only; omega)
              rcases hkd with rfl | rfl
              · simp (disch := omega) only [instO, zeroI, List.map_nil, go_sem, seval, reduceCtorEq, ↓reduceIte]
                exact ⟨k + 1, by omega, by omega, Weak.mk (by simp (disch := omega) only [instO, zeroI, List.map_nil, eT, eO, go_sem, seval, reduceCtorEq, ↓reduceIte])⟩
              · simp (disch := omega) only [instO, zeroI, List.map_nil, go_sem, seval, reduceCtorEq, ↓reduceIte]
                exact ⟨k + 1, by omega, by omega, Weak.mk (by simp (disch := omega) only [instO, zeroI, List.map_nil, eT, eO, go_sem, seval, reduceCtorEq, ↓reduceIte])⟩
          · have hkl : k = l.length := by omega
            subst hkl
            rw [List.take_length]
            have cA := pairs49_c x.apart l 5 x.apart_c c (by omega) hl
            have cB := pairs49_c x.before l 6 x.before_c c (by omega) hl
            refine awp_drawnS 9 mixed (by kernel_rfl) (by kernel_rfl) ?_
            simp (disch := omega) only [go_sem, seval, reduceCtorEq, ↓reduceIte]
            refine exq_call (cA) ?_
            simp (disch := omega) only [go_sem, seval, reduceCtorEq, ↓reduceIte]
            refine exq_call (cB) ?_
            simp (disch := omega) only [go_sem, seval, reduceCtorEq, ↓reduceIte]
            rw [← lT l, ← lO l]
            refine awp_weak (Weak.fz (o := 2) (by rfl)) ?_
            refine awp_weak (Weak.fz (o := 3) (by rfl)) ?_
            refine awp_sound [] _ _ _ _ ?_
            simp (disch := omega) only [List.map_cons, List.map_nil, List.set_cons_succ, List.set_cons_zero, go_sem, seval, reduceCtorEq, ↓reduceIte]
            exact ⟨_, _, Weak.mk (by simp (disch := omega) only [withoutI, go_sem, seval, reduceCtorEq, ↓reduceIte]), rfl, rfl⟩
end Go.Proofs.YtccjopdlbolnhaaGreat.K
set_option linter.unusedVariables false
set_option linter.unusedSimpArgs false
namespace Go.Proofs.YtccjopdlbolnhaaGreat.K
open Go Go.AM Go.Proofs
set_option maxRecDepth 8000
set_option maxHeartbeats 8000000
def simX : Inst := ⟨⟨false, [[104, 117, 98]], true, []⟩, false, [⟨[118, 97, 110], 1, 0, 0, false, [5], 0, 0, 0, 100, 50, 0, 0, 0, 0⟩], false, [⟨[111, 97], false, [1], ⟨-1, 0, 0, 0⟩, ⟨0, 7, 50, 0⟩, 2, -1, 1, -1, -1, false⟩], true, [], true, []⟩
theorem simple49_c : ACalls Tryz.prog 10 [] [] fun x H' => x = .p (eInst simX) ∧ H' = [] := by
  refine ACalls.read (acalls_of (fn := Tryz.f10) Tryz.func10 rfl isF10 (awp_sound [2, 3] _ _ _ _ ?_))
  simp (disch := omega) only [Tryz.f10, go_sem, seval, reduceCtorEq, ↓reduceIte]
  refine awp_weak (Weak.fz (o := 1) (by rfl)) ?_
  refine awp_sound [3] _ _ _ _ ?_
  simp (disch := omega) only [List.map_cons, List.map_nil, List.set_cons_succ, List.set_cons_zero, go_sem, seval, reduceCtorEq, ↓reduceIte]
  refine awp_weak (Weak.fz (o := 3) (by rfl)) ?_
  refine awp_sound [] _ _ _ _ ?_
  simp (disch := omega) only [List.map_cons, List.map_nil, List.set_cons_succ, List.set_cons_zero, go_sem, seval, reduceCtorEq, ↓reduceIte]
  simp [rd, rds, rd1, oat, simX, eInst, eTyp, eOrd, eI, eS]
theorem simX_sz : ISz simX := ⟨fun o hm => by simp [simX] at hm; subst hm; simp, by simp [simX], by simp [simX], by simp [simX], by simp [simX], by simp [simX]⟩
theorem simX_items : refI simX 10 = [⟨2, 0⟩, ⟨3, 0⟩, ⟨4, 0⟩, ⟨7, 0⟩, ⟨8, 0⟩, ⟨9, 0⟩, ⟨10, 0⟩] := by decide +kernel
theorem simX_err : errW simX [⟨2, 0⟩, ⟨3, 0⟩, ⟨4, 0⟩, ⟨7, 0⟩, ⟨8, 0⟩, ⟨9, 0⟩, ⟨10, 0⟩] = 0 := by decide +kernel
theorem simX_res : resW simX [⟨2, 0⟩, ⟨3, 0⟩, ⟨4, 0⟩, ⟨7, 0⟩, ⟨8, 0⟩, ⟨9, 0⟩, ⟨10, 0⟩] = ⟨⟨false, [[104, 117, 98]], true, []⟩, false, [⟨[118, 97, 110], 10, 0, 0, false, [1000], 0, 0, 0, 4096, 4096, 0, 0, 0, 0⟩], false, [⟨[111, 97], false, [1], ⟨-1, 0, 0, 0⟩, ⟨0, 7, 4096, 0⟩, 0, 0, 1, -1, -1, false⟩], false, [], false, []⟩ := by
  rw [resW, if_pos simX_err]; rfl
theorem awake49_c : ACalls Tryz.prog 6 [] [] fun x H' => x = .p (.bool true) ∧ H' = [] := by
  refine acalls_pureC [] (fn := Tryz.f6) Tryz.func6 rfl isF6 ?_
  have hi := itemsC simX simX_sz
  obtain ⟨R, hR⟩ : ∃ R, R = refI simX 10 := ⟨_, rfl⟩
  rw [← hR] at hi
  rw [simX_items] at hR
  have hw := without_c simX simX_sz (by simp [simX]) R false (by rw [hR]; simp)
  have he : errW simX R = 0 := by rw [hR]; exact simX_err
  have r1 : R.length = 7 := by rw [hR]; rfl
  have r2 : nth R 0 = ⟨2, 0⟩ := by rw [hR]; rfl
  have hq := simX_res
  rw [← hR] at hq
  rw [he] at hw
  generalize resW simX R = Y at hw hq
  have y1 : Y.orders.length = 1 := by rw [hq]; rfl
  have y2 : (nth Y.orders 0).drp.cls = 4096 := by rw [hq]; rfl
  have y3 : (nth Y.orders 0).skills = 0 := by rw [hq]; rfl
  have y4 : (nth Y.orders 0).penalty = 0 := by rw [hq]; rfl
  have y5 : Y.types.length = 1 := by rw [hq]; rfl
  have y6 : (nth Y.types 0).drive = 4096 := by rw [hq]; rfl
  have h1 := has49_c simX simX_sz ⟨2, 0⟩
  rw [show hasI simX ⟨2, 0⟩ = true from by decide +kernel] at h1
  have h2 := has49_c simX simX_sz ⟨1, 0⟩
  rw [show hasI simX ⟨1, 0⟩ = false from by decide +kernel] at h2
  have h3 := less49_c ⟨1, 3⟩ ⟨2, 0⟩
  rw [show decide (cmpT ⟨1, 3⟩ ⟨2, 0⟩ < 0) = true from by decide +kernel] at h3
  clear hR hq he
  simp (disch := omega) only [Tryz.f6, go_sem, seval, reduceCtorEq, ↓reduceIte]
  refine (simple49_c).use ?_
  simp (disch := omega) only [go_sem, seval, reduceCtorEq, ↓reduceIte]
  refine (hi).use ?_
  simp (disch := omega) only [go_sem, seval, reduceCtorEq, ↓reduceIte]
  refine useT hw ?_
  simp (disch := omega) only [go_sem, seval, reduceCtorEq, ↓reduceIte]
  refine awp_drawnA mixed (by kernel_rfl) (by kernel_rfl) ?_
  simp (maxSteps := 3000000) (disch := omega) only [r1, r2, y1, y2, y3, y4, y5, y6, go_sem, seval, reduceCtorEq, ↓reduceIte]
  refine exq_call (h1) ?_
  simp (disch := omega) only [go_sem, seval, reduceCtorEq, ↓reduceIte]
  refine exq_call (h2) ?_
  simp (disch := omega) only [go_sem, seval, reduceCtorEq, ↓reduceIte]
  refine exq_call (h3) ?_
  simp (disch := omega) only [go_sem, seval, reduceCtorEq, ↓reduceIte]
theorem few49_c (x : Inst) (hw : x.wf 1048576) (l : List Itm) (c : Bool) (hl : l.length ≤ 1048576) : ACalls Tryz.prog 4 [.p (eInst x), .p (.list c (l.map eItm))] [] fun y H' => ∃ b : Bool, (b = true ↔ l.length ≤ 100 ∧ InstOk x) ∧ y = .p (.bool b) ∧ H' = [] := by
  refine ACalls.pureE (acalls_of (fn := Tryz.f4) Tryz.func4 rfl isF4 (awp_sound [] _ _ _ _ ?_))
  simp (disch := omega) only [Tryz.f4, go_sem, seval, reduceCtorEq, ↓reduceIte]
  refine aguard_t (fun h => ?_) (fun h => ?_) <;> (try simp only [decide_eq_true_eq, decide_eq_false_iff_not] at h) <;> simp (disch := omega) only [Sh.out h, go_sem, seval, reduceCtorEq, ↓reduceIte]
  · refine ((ck13_c x hw).frozenE).useV fun m hm => ?_
    simp (disch := omega) only [go_sem, seval, reduceCtorEq, ↓reduceIte]
    refine ⟨decide (m.length = 0), ?_, by simp⟩
    have := hm.emp
    rw [decide_eq_true_eq, List.length_eq_zero_iff, this]
    constructor
    · intro h2; exact ⟨by omega, h2⟩
    · intro h2; exact h2.2
  · exact ⟨false, by simp; omega, rfl⟩
end Go.Proofs.YtccjopdlbolnhaaGreat.K
set_option linter.unusedVariables false
set_option linter.unusedSimpArgs false
namespace Go.Proofs.YtccjopdlbolnhaaGreat.K
open Go Go.AM Go.Proofs
set_option maxRecDepth 8000
set_option maxHeartbeats 2000000
theorem nth_none {α : Type} [Inhabited α] {l : List α} {i : Nat} (h : ¬ i < l.length) : nth l i = default := by simp [nth, List.getD_eq_getElem?_getD, List.getElem?_eq_none (Nat.le_of_not_lt h)]
theorem visO_L {os : List Ord} {l : List Itm} (i : Nat) : visO (ordsL os l) i = visO os i := by
  unfold visO
  by_cases h : i < os.length
  · rw [ordsL_nth h]; rfl
  · rw [nth_none h, nth_none (by rw [ordsL_len]; exact h)]
theorem seqChk_weak {x : Inst} {l : List Itm} {v : List Vis} (h : seqChk x v = 0) : seqChk (withoutI x l) v = 0 := by
  have hsub1 := keepP_subl x.apart l 5
  have hsub2 := keepP_subl x.before l 6
  have e1 : v.any (outB (withoutI x l)) = v.any (outB x) := by
    congr 1; funext w; simp [outB, withoutI, ordsL_len]
  unfold seqChk at h ⊢
  rw [e1]
  split at h
  · simp at h
  · rename_i c1
    rw [if_neg c1]
    have hin : ∀ w ∈ v, w.order.toNat < x.orders.length := fun w hw => by
      have h5 : ¬ (v.any (outB x)) = true := fun e => c1 (.inr e)
      have h6 : outB x w = false := by
        cases hb : outB x w with
        | false => rfl
        | true => exact absurd (List.any_eq_true.2 ⟨w, hw, hb⟩) h5
      simp [outB] at h6; omega
    have e2 : (v.any fun w => (nth (withoutI x l).orders w.order.toNat).off) = v.any fun w => (nth x.orders w.order.toNat).off := by
      rw [Bool.eq_iff_iff, List.any_eq_true, List.any_eq_true]
      constructor
      · rintro ⟨w, hw, h⟩; exact ⟨w, hw, by rw [show (withoutI x l).orders = ordsL x.orders l from rfl, ordsL_nth (hin w hw)] at h; exact h⟩
      · rintro ⟨w, hw, h⟩; exact ⟨w, hw, by rw [show (withoutI x l).orders = ordsL x.orders l from rfl, ordsL_nth (hin w hw)]; exact h⟩
    rw [e2]
    split at h
    · simp at h
    · rename_i c2
      rw [if_neg c2]
      split at h
      · simp at h
      · rename_i c3
        rw [if_neg c3]
        have e3 : v.all (pairB (withoutI x l).orders v) = v.all (pairB x.orders v) := by
          congr 1; funext w; simp only [pairB]; rw [show (withoutI x l).orders = ordsL x.orders l from rfl, visO_L]
        rw [e3]
        split at h
        · simp at h
        · rename_i c4
          rw [if_neg c4]
          split at h
          · simp at h
          · rename_i c5
            have c5' : ¬ ((withoutI x l).apart.any fun p => hasO v p.1 && hasO v p.2) = true := fun hh => by
              obtain ⟨p, hp, hb⟩ := List.any_eq_true.1 hh
              exact c5 (List.any_eq_true.2 ⟨p, hsub1.subset hp, hb⟩)
            rw [if_neg c5']
            split at h
            · simp at h
            · rename_i c6
              rw [if_neg]
              intro hh
              refine c6 ?_
              first
                | (obtain ⟨p, hp, hb⟩ := List.any_eq_true.1 hh
                   exact List.any_eq_true.2 ⟨p, hsub2.subset hp, hb⟩)
                | (obtain ⟨p, hp, hb⟩ := List.all_eq_false.1 hh
                   exact List.all_eq_false.2 ⟨p, hsub2.subset hp, hb⟩)
/-- a vehicle that comes through comes through where less is asked -/
structure WkT (t t' : Typ) (sp sp' : List Stp) : Prop where
  len : sp'.length = sp.length
  cls : t.cls ≤ t'.cls
  drv : t.drive ≤ t'.drive
  rst : t'.rest = t.rest
  src : t'.src = t.src
  dst : t'.dst = t.dst
  prf : t'.prof = t.prof
  opn : t'.opn = t.opn
  stp : ∀ k, k < sp.length → ∃ c, (nth sp k).cls ≤ c ∧ nth sp' k = { nth sp k with cls := c }
theorem nxtF_weak {x y : Inst} {t t' sp sp' k L b} (hn : y.net = x.net) (h : WkT t t' sp sp') (hk : k ≤ sp.length) (he : (nxtF x t sp k L b).2 = 0) : nxtF y t' sp' k L b = nxtF x t sp k L b := by
  have hplc : ∀ k, k ≤ sp.length → plcF t' sp' k = plcF t sp k := fun k hk => by
    unfold plcF
    split
    · exact h.src
    · obtain ⟨c, _, e⟩ := h.stp (k - 1) (by omega)
      rw [e]
  have hto : toF t' sp' k = toF t sp k := by
    unfold toF
    rw [h.len]
    split
    · exact h.dst
    · obtain ⟨c, _, e⟩ := h.stp k (by omega)
      rw [e]
  have hd : depF t' L b = depF t L b := by simp [depF, h.rst]
  unfold nxtF at he ⊢
  have hg : goL y t' sp' k (depF t' L b) = goL x t sp k (depF t L b) := by rw [goL, goL, hn, h.prf, hplc k hk, hto, hd]
  rw [hg, hd]
  have h1 := h.cls
  have h2 := h.drv
  unfold arrF at he ⊢
  rw [h.len]
  split at he
  · simp at he
  · rename_i c1
    rw [if_neg c1, if_neg c1]
    split at he
    · rename_i c2
      rw [if_pos c2, if_pos c2]
      split at he
      · simp at he
      · rename_i c3
        split at he
        · simp at he
        · rename_i c4
          rw [if_neg c3, if_neg c4, if_neg (by omega), if_neg (by omega)]
    · rename_i c2
      rw [if_neg c2, if_neg c2]
      obtain ⟨c, hc, e⟩ := h.stp k (by omega)
      split at he
      · simp at he
      · rename_i c3
        split at he
        · simp at he
        · rename_i c4
          rw [if_neg c3, if_neg c4, e, if_neg (by simp only; omega), if_neg (by omega)]
theorem runO_weak {x y : Inst} {t t' sp sp'} (hn : y.net = x.net) (h : WkT t t' sp sp') : ∀ (bs : List Bool) (k : Nat) (L z : Lab), k + bs.length ≤ sp.length + 1 → runO (nxtO x t sp) k L bs = some z → runO (nxtO y t' sp') k L bs = some z
  | [], k, L, z, _, e => e
  | b :: bs, k, L, z, hk, e => by
    simp at hk
    rw [runO] at e ⊢
    unfold nxtO at e ⊢
    by_cases c : (nxtF x t sp k L b).2 = 0
    · rw [nxtF_weak hn h (by omega) c]
      rw [if_pos c] at e ⊢
      exact runO_weak hn h bs (k + 1) _ z (by omega) e
    · rw [if_neg c] at e; cases e
theorem fmL_none {fin : Lab → Int} : ∀ {l : List Lab}, fmL fin none l = none ↔ l = []
  | [] => by simp [fmL]
  | a :: l => by
    rw [fmL]
    obtain ⟨z, e, _⟩ := fmL_some fin l a
    rw [e]; simp
theorem bestF_zero {x t sp st r} : (bestF x t sp st r).2 = 0 ↔ ∃ bs ∈ restsR r (sp.length + 1), ∃ z, runO (nxtO x t sp) 0 (labF t st) bs = some z := by
  unfold bestF
  cases hf : fmL finF none ((restsR r (sp.length + 1)).filterMap (runO (nxtO x t sp) 0 (labF t st))) with
  | some L =>
    simp only [true_iff]
    have := bestF_len.fmL_mem _ _ hf
    obtain ⟨bs, hbs, hrun⟩ := List.mem_filterMap.1 this
    exact ⟨bs, hbs, L, hrun⟩
  | none =>
    rw [fmL_none] at hf
    simp only
    constructor
    · intro h
      have hm : padR r (sp.length + 1) ∈ restsR r (sp.length + 1) := by
        unfold restsR padR
        rw [fromB_next]
        simp
      exact ⟨_, hm, _, by rw [runF_opt, if_pos h]⟩
    · rintro ⟨bs, hbs, z, hz⟩
      have : z ∈ (restsR r (sp.length + 1)).filterMap (runO (nxtO x t sp) 0 (labF t st)) := List.mem_filterMap.2 ⟨bs, hbs, hz⟩
      rw [hf] at this; simp at this
theorem bestF_weak {x y : Inst} {t t' sp sp'} {st : Int} {r : List Bool} (hn : y.net = x.net) (h : WkT t t' sp sp') (hr : r.length ≤ sp.length + 1) (h0 : (bestF x t sp st r).2 = 0) : (bestF y t' sp' st r).2 = 0 := by
  rw [bestF_zero] at h0 ⊢
  obtain ⟨bs, hbs, z, hz⟩ := h0
  rw [h.len]
  have hl : bs.length = sp.length + 1 := by
    obtain ⟨q, hq, rfl⟩ := List.mem_map.1 hbs
    have := bestF_len.fromB_len _ _ hq
    simp at this
    simp; omega
  have el : labF t' st = labF t st := by simp [labF, h.opn]
  exact ⟨bs, hbs, z, by rw [el]; exact runO_weak hn h bs 0 _ z (by omega) hz⟩
theorem onB_weak {x : Inst} {l : List Itm} {v : List Vis} {n i : Nat} (hi : i < x.orders.length) : onB (withoutI x l) v n i = onB x v n i := by
  unfold onB
  rw [show (withoutI x l).orders = ordsL x.orders l from rfl, ordsL_nth hi]; rfl
theorem aftF_weak {x : Inst} {l : List Itm} {v : List Vis} {n : Nat} : aftF (withoutI x l) v n = aftF x v n := by
  unfold aftF
  rw [show (withoutI x l).types = typsL x.types l from rfl, dimsOf_typsL]
  refine List.map_congr_left fun j _ => ?_
  unfold sumB
  rw [show (withoutI x l).orders.length = x.orders.length from ordsL_len _ _]
  congr 1
  refine List.map_congr_left fun i hi => ?_
  have hi := List.mem_range.1 hi
  rw [onB_weak hi, show (withoutI x l).orders = ordsL x.orders l from rfl, ordsL_nth hi]; rfl
theorem fitsB_iff {a c : List Int} : fitsB a c = true ↔ a.length = c.length ∧ ∀ i, i < a.length → nth a i ≤ nth c i := by
  simp [fitsB, List.all_eq_true]
theorem typL_fits {t : Typ} {a : Int} {l : List Itm} {b : List Int} (hc : ∀ n ∈ t.cap, n ≤ 1000) (h : fitsB b t.cap = true) : fitsB b (typL t a l).cap = true := by
  rw [fitsB_iff] at h ⊢
  refine ⟨by rw [typL_cap_len]; exact h.1, fun i hi => ?_⟩
  have h1 := h.2 i hi
  simp only [typL]
  split
  · have hlt : i < t.cap.length := by omega
    have h2 := hc _ (nth_mem hlt)
    have : nth (List.replicate t.cap.length (1000 : Int)) i = 1000 := by rw [nth_get (by simpa using hlt)]; simp
    omega
  · exact h1
theorem ableB_zero {t : Typ} {s : Int} (h : ableB t s = true) : ableB t 0 = true := by
  simp [ableB] at h ⊢; exact h.1.1
theorem eval_weak {x : Inst} {l : List Itm} {r : Rte} (hx : InstOk x) (hI : ∀ v ∈ l, hasI x v = true) (h : evalE x r = 0) : evalE (withoutI x l) r = 0 := by
  unfold evalE at h ⊢
  have hr : ruleE x r = 0 := by
    by_cases c : ruleE x r = 0
    · exact c
    · rw [if_neg c] at h; exact h
  rw [if_pos hr] at h
  unfold ruleE at hr
  split at hr
  · simp at hr
  · rename_i c1
    have c1 : 0 ≤ r.typ ∧ r.typ < (x.types.length : Int) := Classical.not_not.1 c1
    split at hr
    · rename_i c2; exact absurd hr c2
    · rename_i c2
      have c2 : seqChk x r.visits = 0 := Classical.not_not.1 c2
      have hsq := sqOk_of c2
      split at hr
      · simp at hr
      · rename_i c3
        split at hr
        · simp at hr
        · rename_i c4
          split at hr
          · simp at hr
          · rename_i c5
            have c5 := Classical.not_not.1 c5
            have htl : r.typ.toNat < x.types.length := by omega
            have ety : typR (withoutI x l) r = typL (typR x r) r.typ l := by
              unfold typR
              rw [show (withoutI x l).types = typsL x.types l from rfl, typsL_nth htl]
              congr 1; omega
            have hty := hx.types.2 _ htl
            have hlt := typOk_L (l := l) htl hty
            have htk : typOk x.net x.types r.typ.toNat := hty
            unfold typOk at htk
            obtain ⟨⟨⟨⟨⟨⟨⟨⟨_, _⟩, _⟩, _⟩, hcap⟩, _⟩, hcl⟩, hdr⟩, _⟩ := htk
            have hcap' := (capOk_iff.1 hcap).2.2
            have hsp : ∀ w ∈ r.visits, ∃ c, (stopV x w).cls ≤ c ∧ stopV (withoutI x l) w = { stopV x w with cls := c } := fun w hw => by
              obtain ⟨w1, w2⟩ := hsq.inr w hw
              have hi : w.order.toNat < x.orders.length := by omega
              have hord := hx.orders.2 _ hi
              have hpk := hord.pstp
              have hdk := hord.dstp
              simp only [stpOk, decide_eq_true_eq] at hpk hdk
              unfold stopV
              rw [show (withoutI x l).orders = ordsL x.orders l from rfl, ordsL_nth hi]
              split
              · simp only [ordL]
                refine ⟨_, ?_, rfl⟩
                split
                · omega
                · exact Int.le_refl _
              · simp only [ordL]
                refine ⟨_, ?_, rfl⟩
                split
                · omega
                · exact Int.le_refl _
            have hw : WkT (typR x r) (typR (withoutI x l) r) (stopsF x r.visits) (stopsF (withoutI x l) r.visits) := by
              rw [ety]
              refine ⟨by simp [stopsF], ?_, ?_, rfl, rfl, rfl, rfl, rfl, fun k hk => ?_⟩
              · simp only [typL]; split
                · exact hcl.2
                · exact Int.le_refl _
              · simp only [typL]; split
                · have := hdr.1; simp [rng] at this; exact this.2
                · exact Int.le_refl _
              · simp [stopsF] at hk
                have e : ∀ y : Inst, nth (stopsF y r.visits) k = stopV y (nth r.visits k) := fun y => by
                  rw [nth_get (by simpa [stopsF] using hk)]; simp [stopsF, nth_get hk]
                rw [e, e]
                exact hsp _ (nth_mem hk)
            have hr' : ruleE (withoutI x l) r = 0 := by
              unfold ruleE
              rw [if_neg (by rw [show (withoutI x l).types.length = x.types.length from typsL_len _ _]; exact fun hh => hh c1), if_neg (by rw [seqChk_weak c2]; simp)]
              rw [if_neg, if_neg, if_neg (fun hh => hh c5)]
              · have c4 : loadB x (typR x r).cap r.visits = true := by simpa using c4
                have : loadB (withoutI x l) (typR (withoutI x l) r).cap r.visits = true := by
                  unfold loadB at c4 ⊢
                  rw [List.all_eq_true] at c4 ⊢
                  intro n hn
                  have := c4 n hn
                  rw [aftF_weak, ety]
                  exact typL_fits (fun m hm => (hcap' m hm).2) this
                rw [this]; simp
              · intro hh
                refine c3 ?_
                obtain ⟨w, hw2, hb⟩ := List.any_eq_true.1 hh
                refine List.any_eq_true.2 ⟨w, hw2, ?_⟩
                obtain ⟨w1, w2⟩ := hsq.inr w hw2
                have hi : w.order.toNat < x.orders.length := by omega
                rw [show (withoutI x l).orders = ordsL x.orders l from rfl, ordsL_nth hi, ety] at hb
                cases ha : ableB (typR x r) (nth x.orders w.order.toNat).skills with
                | false => rfl
                | true =>
                  have e : ∀ s, ableB (typL (typR x r) r.typ l) s = ableB (typR x r) s := fun s => rfl
                  rw [e] at hb
                  simp only [ordL] at hb
                  split at hb
                  · rw [ableB_zero ha] at hb; simp at hb
                  · rw [ha] at hb; simp at hb
            rw [if_pos hr']
            exact bestF_weak (x := x) (y := withoutI x l) (t := typR x r) (t' := typR (withoutI x l) r) (sp := stopsF x r.visits) (sp' := stopsF (withoutI x l) r.visits) rfl hw (by simp [stopsF]; exact c5.2.2) h
end Go.Proofs.YtccjopdlbolnhaaGreat.K
set_option linter.unusedVariables false
set_option linter.unusedSimpArgs false
namespace Go.Proofs.YtccjopdlbolnhaaGreat.K
open Go Go.AM Go.Proofs
set_option maxRecDepth 8000
set_option maxHeartbeats 8000000
theorem lawWeaker_c (x : Inst) (hw : x.wf 1048576) (l : List Itm) (c : Bool) (hl : l.length ≤ 1048576) (r : Rte) (hr : r.rests.length ≤ 1048576 ∧ r.visits.length ≤ 1048576) : ACalls Tryz.prog 3 [.p (eInst x), .p (.list c (l.map eItm)), .p (eRte r)] [] fun y H' => y = .p (.bool true) ∧ H' = [] := by
  obtain ⟨hr1, hr2⟩ := hr
  refine acalls_pureC [] (fn := Tryz.f3) Tryz.func3 rfl isF3 ?_
  simp (disch := omega) only [Tryz.f3, go_sem, seval, reduceCtorEq, ↓reduceIte]
  refine (few49_c x hw l c hl).useV fun b hb => ?_
  simp (disch := omega) only [go_sem, seval, reduceCtorEq, ↓reduceIte]
  refine aguard_f (fun h => ?_) (fun h => ?_) <;> (try simp only [decide_eq_true_eq, decide_eq_false_iff_not] at h) <;> simp (disch := omega) only [Sh.out h, go_sem, seval, reduceCtorEq, ↓reduceIte]
  · refine (awake49_c).use ?_
    simp (disch := omega) only [go_sem, seval, reduceCtorEq, ↓reduceIte]
  · obtain ⟨_, hok⟩ := hb.1 (by simpa using h)
    have hol := hok.orders.1
    refine aguard_f (fun h2 => ?_) (fun h2 => ?_) <;> (try simp only [decide_eq_true_eq, decide_eq_false_iff_not] at h2) <;> simp (disch := omega) only [Sh.out h2, go_sem, seval, reduceCtorEq, ↓reduceIte]
    · refine (awake49_c).use ?_
      simp (disch := omega) only [go_sem, seval, reduceCtorEq, ↓reduceIte]
    · refine aguard_f (fun h3 => ?_) (fun h3 => ?_) <;> (try simp only [decide_eq_true_eq, decide_eq_false_iff_not] at h3) <;> simp (disch := omega) only [Sh.out h3, go_sem, seval, reduceCtorEq, ↓reduceIte]
      · refine (awake49_c).use ?_
        simp (disch := omega) only [go_sem, seval, reduceCtorEq, ↓reduceIte]
      · refine aguard_f (fun h4 => ?_) (fun h4 => ?_) <;> (try simp only [decide_eq_true_eq, decide_eq_false_iff_not] at h4) <;> simp (disch := omega) only [Sh.out h4, go_sem, seval, reduceCtorEq, ↓reduceIte]
        · refine (awake49_c).use ?_
          simp (disch := omega) only [go_sem, seval, reduceCtorEq, ↓reduceIte]
        · refine aguard_f (fun h5 => ?_) (fun h5 => ?_) <;> (try simp only [decide_eq_true_eq, decide_eq_false_iff_not] at h5) <;> simp (disch := omega) only [Sh.out h5, go_sem, seval, reduceCtorEq, ↓reduceIte]
          · refine (awake49_c).use ?_
            simp (disch := omega) only [go_sem, seval, reduceCtorEq, ↓reduceIte]
          · refine (valid21_c x r hok hr2 hr1).use ?_
            simp (disch := omega) only [go_sem, seval, reduceCtorEq, ↓reduceIte]
            refine acond_b (fun h6 => ?_) (fun h6 => ?_) <;> (try simp only [decide_eq_true_eq, decide_eq_false_iff_not] at h6) <;> simp (disch := omega) only [Sh.out h6, go_sem, seval, reduceCtorEq, ↓reduceIte]
            · refine (awake49_c).use ?_
              simp (disch := omega) only [go_sem, seval, reduceCtorEq, ↓reduceIte]
            · have h6' : evalE x r = 0 := Classical.not_not.1 h6
              have hs := inst_sz hok
              have hc := inst_cap hok
              have c1 := without_c x hs hc l c hl
              have h7 : errW x l = 0 → InstOk (resW x l) ∧ evalE (resW x l) r = 0 := fun e => by
                rw [resW, if_pos e]
                exact ⟨without_ok hok (errW_iff.1 e).1, eval_weak hok (errW_iff.1 e).1 h6'⟩
              generalize resW x l = Y at c1 h7
              generalize errW x l = e at c1 h7
              refine useT c1 ?_
              simp (disch := omega) only [go_sem, seval, reduceCtorEq, ↓reduceIte]
              refine aguard_f (fun h8 => ?_) (fun h8 => ?_) <;> (try simp only [decide_eq_true_eq, decide_eq_false_iff_not] at h8) <;> simp (disch := omega) only [Sh.out h8, go_sem, seval, reduceCtorEq, ↓reduceIte]
              · refine (awake49_c).use ?_
                simp (disch := omega) only [go_sem, seval, reduceCtorEq, ↓reduceIte]
              · obtain ⟨g1, g2⟩ := h7 (Classical.not_not.1 h8)
                refine (valid21_c Y r g1 hr2 hr1).use ?_
                simp (disch := omega) only [go_sem, seval, reduceCtorEq, ↓reduceIte]
                simp (disch := omega) only [g2, go_sem, seval, reduceCtorEq, ↓reduceIte]
                refine (awake49_c).use ?_
                simp (disch := omega) only [go_sem, seval, reduceCtorEq, ↓reduceIte]
                simp [g2]
end Go.Proofs.YtccjopdlbolnhaaGreat.K
