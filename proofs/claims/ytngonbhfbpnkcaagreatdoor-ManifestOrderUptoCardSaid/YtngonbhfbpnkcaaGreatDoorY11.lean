/- Declarations that the closing texts need, part 11: joined by tools/slim.py. -/
import Derived.Test.YtngonbhfbpnkcaaGreatDoorY10
import Derived.Lib.Builder
set_option linter.unusedVariables false
set_option linter.unusedSimpArgs false
namespace Go.AM
open Go.RowKit
@[go_sem ↓] theorem hid_hide {c : Code} {t} : hid (hide c t) = hid c := Eq.trans rfl rfl
structure Grew (w w' : World) (go go' : Option Nat) : Prop where
 os : w'.os = w.os
 tape : w'.tape = w.tape
 output : w'.output = w.output
 size : w.heap.size ≤ w'.heap.size
 old : ∀ k, k < w.heap.size → some k ≠ go → w'.heap[k]? = w.heap[k]?
 new : ∀ g, go' = some g → g < w'.heap.size ∧ (go = some g ∨ w.heap.size ≤ g)
 shape : ∀ g c t, go = some g → w.heap[g]? = some (.cells c t (0, 0)) → ∃ c', w'.heap[g]? = some (.cells c' t (0, 0)) ∧ c'.size = c.size
theorem Grew.drewAlloc {w : World} {go : Option Nat} {ob : Go.Obj} : Grew w (w.drew.alloc ob) go (some w.heap.size) := by
 have old : ∀ k, k < w.heap.size → (w.drew.alloc ob).heap[k]? = w.heap[k]? := fun k hk => by
  show (w.heap.push ob)[k]? = _
  rw [Array.getElem?_push, if_neg (by omega)]
 have sz : (w.drew.alloc ob).heap.size = w.heap.size + 1 := by show (w.heap.push ob).size = _; simp
 refine ⟨rfl, rfl, rfl, by omega, fun k hk _ => old k hk, fun g hg => ?_, fun g c t _ h => ⟨c, ?_, rfl⟩⟩
 ·simp at hg; subst hg; exact ⟨by omega, .inr (Nat.le_refl _)⟩
 ·rw [old g (Array.getElem?_eq_some_iff.1 h).1]; exact h
theorem run_bapp {P : Program} {w : World} {t t2 ty e : TypeId} {i : TypeInfo} (ht : P.underlying t = some (.slice e)) (hu : P.underlying t2 = some .string) (hi : P.info? e = some i) (hz : i.zero = some (.int .u8 0)) (hs1 : i.size = 1) (hby : i.bytes = 1)
  {v : Value} {n : Nat} {xs : List Value} (hown : w.ownsRow 0 e 1 v n xs) (s : List UInt8) (hs : s ≠ []) (hb : n + s.length ≤ 140737488355328) :
  ∃ v' w', (Builtin.append_ #[t, t2] ty #[v, .string ⟨s.toArray⟩]).run P w = .ok v' w' ∧ w'.ownsRow 0 e 1 v' (n + s.length) (xs ++ s.map fun x => .int .u8 x.toNat) ∧ Grew w w' v.ownBlock v'.ownBlock := by
 have hsz : (⟨s.toArray⟩ : ByteArray).size = s.length := by show s.toArray.size = _; simp
 have hsl : 0 < s.length := List.length_pos_iff.2 hs
 have htsz : tsz P e = some 1 := by simp [tsz, hi, hs1]
 have hsrc : Src P (fun _ => False) w t2 (.string ⟨s.toArray⟩) 1 (s.map fun b => PV.int .u8 b.toNat) (s.map fun b => Value.int .u8 b.toNat) := by
  refine ⟨by simp, .inl hu, fun w' => by simp [Builtin.lenOf, hsz], fun w' _ => ?_, fun i y j c hi hj => ?_⟩
  ·have e : (⟨s.toArray⟩ : ByteArray).extract 0 s.length = ⟨s.toArray⟩ := by
    rw [bytes_extract s 0 s.length (by omega) (Nat.le_refl _)]; simp
   simp [Builtin.firstCells, e]
  ·simp only [List.getElem?_map, Option.map_eq_some_iff] at hi
   obtain ⟨b, hb, rfl⟩ := hi
   cases j with
   | zero =>
    simp [PV.cells] at hj; subst hj
    simp [List.getD, hb]
    exact .int _ _
   | succ j => simp [PV.cells] at hj
 have h1 : ∀ v ∈ s.map (fun b => Value.int .u8 b.toNat), v.oneCell' = true := fun v hv => by simp at hv; obtain ⟨a, _, rfl⟩ := hv; rfl
 obtain ⟨hxl, hown⟩ := hown
 have fresh : ∀ {a : Option Addr} {cap : Nat}, cap < n + s.length → (∀ w' : World, w'.heap = w.heap → (Builtin.firstCells 1 n (.slice a n cap)).run P w' = .ok xs.toArray w') →
   ∃ v' w', (Builtin.append_ #[t, t2] ty #[.slice a n cap, .string ⟨s.toArray⟩]).run P w = .ok v' w' ∧ w'.ownsRow 0 e 1 v' (n + s.length) (xs ++ s.map fun x => .int .u8 x.toNat) ∧ Grew w w' (Value.slice a n cap).ownBlock v'.ownBlock := fun {a cap} hc hf => by
  have hrun := run_append_new (ty := ty) ht htsz hsrc hi hz (a := a) (n := n) (cap := cap) (olds := xs) hxl hf (by simpa using hc) (by simp; omega) (by rw [hby]; decide) (by rw [hby]; simpa using hb)
  simp only [List.length_map] at hrun
  refine ⟨_, _, hrun, ⟨by simp; omega, .inr ⟨w.heap.size, grownCap w (n + s.length) cap e, _, rfl, Nat.zero_le _, (Pushed.drewAlloc w _ e).new, grownCap_ge w (n + s.length) cap e, grownCap_le_maxLen w (n + s.length) cap e (by unfold maxLen; omega), ?_, ?_⟩⟩, Grew.drewAlloc⟩
  ·have := grownCap_ge w (n + s.length) cap e
   have hz1 : (Value.int .u8 0).cells.size = 1 := rfl
   simp only [Array.size_append, List.size_toArray, size_zeroCells, hxl, hz1, List.length_map]
   omega
  ·simp only [Array.toList_append]
   rw [List.take_append_of_le_length (by simp; omega), List.take_of_length_le (by simp; omega)]
 rcases hown with ⟨rfl, rfl⟩ | ⟨g, cap, cur, rfl, _, hg, hnc, hcm, hcs, htk⟩
 ·have hx0 : xs = [] := List.eq_nil_of_length_eq_zero (by omega)
  subst hx0
  exact fresh (by omega) (fun w' _ => by simp [Builtin.firstCells, loadCells, loadCellsFrom])
 ·by_cases hroom : n + s.length ≤ cap
  ·have hrun := run_append_in (ty := ty) ht htsz hsrc (n := n) (cap := cap) hg (by simpa using hroom) (by simp; omega) h1
   simp only [List.length_map] at hrun
   have hlt : g < w.heap.size := (Array.getElem?_eq_some_iff.1 hg).1
   have hT := Turned.setRow (c := ((cur.toList.take (n * 1) ++ s.map (fun b => Value.int .u8 b.toNat) ++ cur.toList.drop (n * 1 + s.length))).toArray) hg
   have hsz2 : ((cur.toList.take (n * 1) ++ s.map (fun b => Value.int .u8 b.toNat) ++ cur.toList.drop (n * 1 + s.length))).toArray.size = cur.size := by
    simp; omega
   refine ⟨_, _, hrun, ⟨by simp; omega, .inr ⟨g, cap, _, rfl, Nat.zero_le _, hT.at', hroom, hcm, by rw [hsz2]; exact hcs, ?_⟩⟩, ⟨rfl, rfl, rfl, by rw [hT.size]; exact Nat.le_refl _, fun k _ hk => hT.other k (fun h => hk (by rw [h]; rfl)), fun g' hg' => ?_, fun g' c' t' hg' hc' => ?_⟩⟩
   ·rw [htk]
    rw [List.take_append_of_le_length (by simp; omega), List.take_of_length_le (by simp; omega)]
   ·simp [Value.ownBlock] at hg'; subst hg'; exact ⟨by rw [hT.size]; exact hlt, .inl rfl⟩
   ·simp [Value.ownBlock] at hg'; subst hg'
    rw [hg] at hc'; simp at hc'; obtain ⟨rfl, rfl⟩ := hc'
    exact ⟨_, hT.at', hsz2⟩
  ·exact fresh (by omega) (fun w' hw => first_of (w := w) hxl (fun j u hj => by
    rw [← htk] at hj
    have hjl := (List.getElem?_eq_some_iff.1 hj).1
    simp at hjl
    rw [List.getElem?_take_of_lt (by omega)] at hj
    rw [Addr.add_lit]
    simpa [World.cell?, hg] using hj) w' hw)
theorem wpList_bapp {P : Program} {w : World} {ops : Array Oper} {rest : List Oper} {o : Oper} {a : Act} {Q : Exit → Act → World → Prop} (hgd : o.guard = none) (sl x : Operand) (t u : TypeId)
  (ho : o.op = .call { callee := .builtin .append, args := #[sl, x], argTypes := #[t, u] }) (e : TypeId) (i : TypeInfo) (ht : P.underlying t = some (.slice e)) (hu : P.underlying u = some .string) (hi : P.info? e = some i) (hz : i.zero = some (.int .u8 0)) (hs1 : i.size = 1) (hby : i.bytes = 1)
  (v : Value) (n : Nat) (xs : List Value) (hs : a.eval sl = v) (hown : w.ownsRow 0 e 1 v n xs) (s : List UInt8) (hs0 : s ≠ []) (hx : a.eval x = .string ⟨s.toArray⟩) (hb : n + s.length ≤ 140737488355328)
  (h : ∀ v' w', w'.ownsRow 0 e 1 v' (n + s.length) (xs ++ s.map fun x => .int .u8 x.toNat) → Grew w w' v.ownBlock v'.ownBlock → wpList P ops Q rest (a.put o.dst v') w') : wpList P ops Q (o :: rest) a w := by
 refine wpList_plain hgd fun K hK => ?_
 obtain ⟨v', w', hr, h2, h3⟩ := run_bapp (P := P) (ty := o.type) ht hu hi hz hs1 hby hown s hs0 hb
 unfold Oper.wp execOp
 simp only [ho, resolve, invoke, builtin, Sem.run_bind, Sem.run_pure, Result.andThen_ok, List.map_toArray, List.map_cons, List.map_nil, hs, hx, hr]
 exact hK _ _ (h v' w' h2 h3)
section
variable {F : Nat → Prop} {H : List Obj} {ι : List (Option Nat)} {w w' : World}
theorem good_pushBld (hr : Rel F H ι w) {T : TypeId} (E : TypeId) (hp : Pushed w w' #[.pointer none, .slice none 0 0] T) : Good F H ι w (H ++ [.bld T E (H.length + 1) [], .dead]) (ι ++ [some w.heap.size, none]) w' := by
 have hlen := hr.len
 have hold : ∀ i b, ι[i]? = some (some b) → b < w.heap.size := fun i b h => (hr.avo i b h).2
 have gH : ∀ {i : Nat}, i < H.length → (H ++ [.bld T E (H.length + 1) [], .dead])[i]? = H[i]? := fun h => List.getElem?_append_left h
 have gi : ∀ {i : Nat}, i < H.length → (ι ++ [some w.heap.size, none])[i]? = ι[i]? := fun h => List.getElem?_append_left (by omega)
 have old : ∀ {i : Nat} {x : Obj}, (H ++ [.bld T E (H.length + 1) [], .dead])[i]? = some x → (i < H.length ∧ H[i]? = some x) ∨ (i = H.length ∧ x = .bld T E (H.length + 1) []) ∨ (i = H.length + 1 ∧ x = .dead) := fun {i x} h => by
  by_cases hlt : i < H.length
  ·rw [gH hlt] at h; exact .inl ⟨hlt, h⟩
  ·rw [List.getElem?_append_right (by omega)] at h
   obtain ⟨k, rfl⟩ : ∃ k, i = H.length + k := ⟨i - H.length, by omega⟩
   rw [show H.length + k - H.length = k by omega] at h
   match k, h with
   | 0, h => simp at h; exact .inr (.inl ⟨rfl, h.symm⟩)
   | 1, h => simp at h; exact .inr (.inr ⟨rfl, h.symm⟩)
   | k + 2, h => simp at h
 have oldi : ∀ {i b : Nat}, (ι ++ [some w.heap.size, none])[i]? = some (some b) → (i < H.length ∧ ι[i]? = some (some b)) ∨ (i = H.length ∧ b = w.heap.size) := fun {i b} h => by
  by_cases hlt : i < H.length
  ·rw [gi hlt] at h; exact .inl ⟨hlt, h⟩
  ·rw [List.getElem?_append_right (by omega)] at h
   obtain ⟨k, rfl⟩ : ∃ k, i = ι.length + k := ⟨i - ι.length, by omega⟩
   rw [show ι.length + k - ι.length = k by omega] at h
   match k, h with
   | 0, h => simp at h; exact .inr ⟨by omega, h.symm⟩
   | 1, h => simp at h
   | k + 2, h => simp at h
 have e1 : (ι ++ [some w.heap.size, none])[H.length]? = some (some w.heap.size) := by rw [← hlen, List.getElem?_append_right (Nat.le_refl _)]; simp
 have e2 : (ι ++ [some w.heap.size, none])[H.length + 1]? = some none := by rw [← hlen, List.getElem?_append_right (by omega)]; simp
 have hkeep : Keeps (Own F ι) w (Own F (ι ++ [some w.heap.size, none])) w' := fun b hb hs => by
  refine ⟨?_, by rw [hp.size]; omega, hp.old hs⟩
  rintro (h | h)
  ·exact hb (.inl h)
  ·simp at h
   rcases h with h | h
   ·exact hb (.inr h)
   ·omega
 have hx : HX H ι w (H ++ [.bld T E (H.length + 1) [], .dead]) (ι ++ [some w.heap.size, none]) w' := fun o x ho => by
  have hlt : o < H.length := (List.getElem?_eq_some_iff.1 ho).1
  have e1 := (gH hlt).trans ho
  cases x with
  | dead => exact .inl e1
  | cells cs => exact .inr ⟨⟨_, e1⟩, gi hlt⟩
  | map es => exact .inr ⟨⟨_, e1⟩, gi hlt⟩
  | bld => exact .inr ⟨⟨_, e1⟩, gi hlt⟩
  | elems S xs => exact .inr ⟨_, e1, .inr ⟨rfl, gi hlt, fun b c t hb hc => ⟨c, by rw [hp.old (hold _ _ hb)]; exact hc, rfl⟩⟩⟩
 refine ⟨⟨by simp [hlen], fun b hb => by rw [hp.size]; have := hr.fin b hb; omega, fun i j b hi hj => ?_, fun i b hi => ?_, fun o cs ho => ?_, fun o S xs ho => ?_, fun o es ho => ?_, fun o T2 E2 r bs ho => ?_⟩, hp.os, hp.tape, hp.output, fun b c0 t0 h0 => .inr ⟨c0, by rw [hp.old (Array.getElem?_eq_some_iff.1 h0).1]; exact h0, rfl⟩, by rw [hp.size]; omega, fun b hb _ => hp.old hb, fun b hb ho h => ?_, hx⟩
 ·rcases oldi hi with ⟨_, hi⟩ | ⟨hi, e⟩ <;> rcases oldi hj with ⟨_, hj⟩ | ⟨hj, e'⟩
  ·exact hr.inj i j b hi hj
  ·have := hold _ _ hi; omega
  ·have := hold _ _ hj; omega
  ·omega
 ·rcases oldi hi with ⟨_, hi⟩ | ⟨hi, rfl⟩
  ·have := hr.avo i b hi; exact ⟨this.1, by rw [hp.size]; omega⟩
  ·exact ⟨fun h => by have := hr.fin _ h; omega, by rw [hp.size]; omega⟩
 ·rcases old ho with ⟨hlt, ho⟩ | ⟨_, e⟩ | ⟨_, e⟩
  ·obtain ⟨b, c', t', h1, h2, h3, h4⟩ := hr.cel o cs ho
   exact ⟨b, c', t', by rw [gi hlt]; exact h1, by rw [hp.old (hold _ _ h1)]; exact h2, h3, fun j x hj => (h4 j x hj).ext hkeep hx⟩
  ·cases e
  ·cases e
 ·rcases old ho with ⟨hlt, ho⟩ | ⟨_, e⟩ | ⟨_, e⟩
  ·rcases hr.elm o S xs ho with ⟨h1, h2⟩ | ⟨b, c', t', cap, h1, h2, h3, h4, h5, h6, h7⟩
   ·exact .inl ⟨by rw [gi hlt]; exact h1, h2⟩
   ·exact .inr ⟨b, c', t', cap, by rw [gi hlt]; exact h1, by rw [hp.old (hold _ _ h1)]; exact h2, h3, h4, h5, h6, fun i x j y hi hj => (h7 i x j y hi hj).ext hkeep⟩
  ·cases e
  ·cases e
 ·rcases old ho with ⟨hlt, ho⟩ | ⟨_, e⟩ | ⟨_, e⟩
  ·obtain ⟨b, a', k, h1, h2, h3⟩ := hr.mpr o es ho
   exact ⟨b, a', k, by rw [gi hlt]; exact h1, by rw [hp.old (hold _ _ h1)]; exact h2, h3.ext hkeep⟩
  ·cases e
  ·cases e
 ·rcases old ho with ⟨hlt, ho⟩ | ⟨rfl, e⟩ | ⟨_, e⟩
  ·obtain ⟨d0, d, b, go, h1, h2, h3⟩ := hr.bldr o T2 E2 r bs ho
   have hrl := (List.getElem?_eq_some_iff.1 d).1
   exact ⟨d0, (gH hrl).trans d, b, go, (gi hlt).trans h1, (gi hrl).trans h2, h3.ext (hp.old (hold _ _ h1)) fun g hg => hp.old (hold r g (by rw [h2, hg]))⟩
  ·simp at e; obtain ⟨rfl, rfl, rfl, rfl⟩ := e
   refine ⟨rfl, by rw [List.getElem?_append_right (by omega)]; simp, w.heap.size, none, e1, e2, _, _, hp.new, .inl rfl, rfl, rfl, .inl ⟨rfl, rfl⟩⟩
  ·cases e
 ·simp at h
  rcases h with h | h
  ·exact ho h
  ·omega
theorem good_setBld (hr : Rel F H ι w) {o T E r b : Nat} {go go' : Option Nat} {bs : List UInt8} {ob' : Obj} (hH : H[o]? = some (.bld T E r bs)) (hb : ι[o]? = some (some b)) (hg : ι[r]? = some go)
  (hos : w'.os = w.os) (htape : w'.tape = w.tape) (hout : w'.output = w.output) (hsz : w.heap.size ≤ w'.heap.size) (hold : ∀ k, k < w.heap.size → k ≠ b → some k ≠ go → w'.heap[k]? = w.heap[k]?)
  (hnew : ∀ g, go' = some g → g < w'.heap.size ∧ (go = some g ∨ w.heap.size ≤ g))
  (hshape : ∀ g c t, some g = go ∨ g = b → w.heap[g]? = some (.cells c t (0, 0)) → (some g = go ∧ go' ≠ go) ∨ ∃ c', w'.heap[g]? = some (.cells c' t (0, 0)) ∧ c'.size = c.size) (hob : ob' = .dead ∨ ∃ bs', ob' = .bld T E r bs' ∧ BRep w' T E b go' bs') :
  Good F H ι w (H.set o ob') (ι.set r go') w' := by
 obtain ⟨hor, hrd, b0, go0, q1, q2, _⟩ := hr.bldr o T E r bs hH
 have hb0 : b0 = b := by rw [hb] at q1; simpa using q1.symm
 subst hb0
 have hg0 : go0 = go := by rw [hg] at q2; simpa using q2.symm
 subst hg0
 have hlen := hr.len
 have hol := (List.getElem?_eq_some_iff.1 hH).1
 have hrl := (List.getElem?_eq_some_iff.1 hrd).1
 have lt : ∀ i k, ι[i]? = some (some k) → k < w.heap.size := fun i k h => (hr.avo i k h).2
 have gH : ∀ {i : Nat}, i ≠ o → (H.set o ob')[i]? = H[i]? := fun h => List.getElem?_set_ne (Ne.symm h)
 have gHo : (H.set o ob')[o]? = some ob' := by simp [hol]
 have gi : ∀ {i : Nat}, i ≠ r → (ι.set r go')[i]? = ι[i]? := fun h => List.getElem?_set_ne (Ne.symm h)
 have gir : (ι.set r go')[r]? = some go' := by simp [hlen, hrl]
 have neb : ∀ {i k : Nat}, i ≠ o → ι[i]? = some (some k) → k ≠ b0 := fun {i k} hi h e => hi (hr.inj i o k h (by rw [e]; exact hb))
 have neg : ∀ {i k : Nat}, i ≠ r → ι[i]? = some (some k) → some k ≠ go0 := fun {i k} hi h e => hi (hr.inj i r k h (by rw [e]; exact hg))
 have oth : ∀ {i k : Nat}, i ≠ o → i ≠ r → ι[i]? = some (some k) → w'.heap[k]? = w.heap[k]? := fun {i k} h1 h2 h => hold k (lt i k h) (neb h1 h) (neg h2 h)
 have mem : ∀ k, k < w.heap.size → some k ∉ ι → some k ∉ ι.set r go' := fun k hk hn hm => by
  obtain ⟨i, hi⟩ := List.mem_iff_getElem?.1 hm
  by_cases e : i = r
  ·subst e; rw [gir] at hi; simp at hi; subst hi
   rcases (hnew k rfl).2 with h | h
   ·exact hn (List.mem_of_getElem? (by rw [hg, h]))
   ·omega
  ·rw [gi e] at hi; exact hn (List.mem_of_getElem? hi)
 have kept : ∀ k, k < w.heap.size → some k ∉ ι → w'.heap[k]? = w.heap[k]? := fun k hk hn => hold k hk (fun e => hn (by rw [e]; exact List.mem_of_getElem? hb)) (fun e => hn (by rw [e]; exact List.mem_of_getElem? hg))
 have hkeep : Keeps (Own F ι) w (Own F (ι.set r go')) w' := fun k hk hs => by
  have h1 : some k ∉ ι := fun h => hk (.inr h)
  exact ⟨fun h => h.elim (fun h => hk (.inl h)) (mem k hs h1), by omega, kept k hs h1⟩
 have hx : HX H ι w (H.set o ob') (ι.set r go') w' := fun i x hi => by
  by_cases hio : i = o
  ·subst hio
   rw [hH] at hi; simp at hi; subst hi
   rcases hob with rfl | ⟨bs', rfl, _⟩
   ·exact .inl gHo
   ·exact .inr ⟨⟨_, gHo⟩, gi (by omega)⟩
  ·have e1 := (gH hio).trans hi
   have hir : x ≠ .dead → i ≠ r := fun h e => h (by subst e; rw [hrd] at hi; simpa using hi.symm)
   cases x with
   | dead => exact .inl e1
   | cells cs => exact .inr ⟨⟨_, e1⟩, gi (hir (by simp))⟩
   | map es => exact .inr ⟨⟨_, e1⟩, gi (hir (by simp))⟩
   | bld => exact .inr ⟨⟨_, e1⟩, gi (hir (by simp))⟩
   | elems S xs => exact .inr ⟨_, e1, .inr ⟨rfl, gi (hir (by simp)), fun k c t hk hc => ⟨c, by rw [oth hio (hir (by simp)) hk]; exact hc, rfl⟩⟩⟩
 have F0 : ∀ {g : Nat}, go' = some g → ¬ F g := fun {g} h hF => by
  rcases (hnew g h).2 with h1 | h1
  ·exact (hr.avo r g (by rw [hg, h1])).1 hF
  ·have := hr.fin g hF; omega
 have new : ∀ {i g : Nat}, i ≠ r → ι[i]? = some (some g) → go' ≠ some g := fun {i g} hi h e => by
  rcases (hnew g e).2 with h1 | h1
  ·exact neg hi h h1.symm
  ·have := lt i g h; omega
 refine ⟨⟨by simp [hlen], fun k hk => by have := hr.fin k hk; omega, fun i j k hi hj => ?_, fun i k hi => ?_, fun i cs hi => ?_, fun i S xs hi => ?_, fun i es hi => ?_, fun i T2 E2 r2 bs2 hi => ?_⟩, hos, htape, hout, fun k c t hc => ?_, hsz, kept, fun k hk hn => mem k hk hn, hx⟩
 ·by_cases h1 : i = r <;> by_cases h2 : j = r
  ·omega
  ·subst h1; rw [gir] at hi; simp at hi; rw [gi h2] at hj; exact absurd hi (new h2 hj)
  ·subst h2; rw [gir] at hj; simp at hj; rw [gi h1] at hi; exact absurd hj (new h1 hi)
  ·rw [gi h1] at hi; rw [gi h2] at hj; exact hr.inj i j k hi hj
 ·by_cases h1 : i = r
  ·subst h1; rw [gir] at hi; simp at hi; exact ⟨F0 hi, (hnew k hi).1⟩
  ·rw [gi h1] at hi; have := hr.avo i k hi; exact ⟨this.1, by omega⟩
 ·have hio : i ≠ o := fun e => by subst e; rw [gHo] at hi; simp at hi; subst hi; rcases hob with h | ⟨_, h, _⟩ <;> cases h
  rw [gH hio] at hi
  have hir : i ≠ r := fun e => by subst e; rw [hrd] at hi; cases hi
  obtain ⟨k, c, t, h1, h2, h3, h4⟩ := hr.cel i cs hi
  exact ⟨k, c, t, (gi hir).trans h1, (oth hio hir h1).trans h2, h3, fun j x hj => (h4 j x hj).ext hkeep hx⟩
 ·have hio : i ≠ o := fun e => by subst e; rw [gHo] at hi; simp at hi; subst hi; rcases hob with h | ⟨_, h, _⟩ <;> cases h
  rw [gH hio] at hi
  have hir : i ≠ r := fun e => by subst e; rw [hrd] at hi; cases hi
  rcases hr.elm i S xs hi with ⟨h1, h2⟩ | ⟨k, c, t, cap, h1, h2, h3, h4, h5, h6, h7⟩
  ·exact .inl ⟨(gi hir).trans h1, h2⟩
  ·exact .inr ⟨k, c, t, cap, (gi hir).trans h1, (oth hio hir h1).trans h2, h3, h4, h5, h6, fun i x j y hi hj => (h7 i x j y hi hj).ext hkeep⟩
 ·have hio : i ≠ o := fun e => by subst e; rw [gHo] at hi; simp at hi; subst hi; rcases hob with h | ⟨_, h, _⟩ <;> cases h
  rw [gH hio] at hi
  have hir : i ≠ r := fun e => by subst e; rw [hrd] at hi; cases hi
  obtain ⟨k, a', q, h1, h2, h3⟩ := hr.mpr i es hi
  exact ⟨k, a', q, (gi hir).trans h1, (oth hio hir h1).trans h2, h3.ext hkeep⟩
 ·by_cases hio : i = o
  ·subst hio
   rw [gHo] at hi; simp at hi; subst hi
   rcases hob with h | ⟨bs', h, hB⟩
   ·cases h
   simp at h; obtain ⟨rfl, rfl, rfl, rfl⟩ := h
   exact ⟨hor, (gH (by omega)).trans hrd, b0, go', (gi (by omega)).trans hb, gir, hB⟩
  ·rw [gH hio] at hi
   obtain ⟨d0, d, k, gk, h1, h2, h3⟩ := hr.bldr i T2 E2 r2 bs2 hi
   have hir : i ≠ r := fun e => by subst e; rw [hrd] at hi; cases hi
   have hro : r2 ≠ o := fun e => by subst e; rw [hH] at d; cases d
   by_cases hrr : r2 = r
   ·subst hrr
    exact absurd (show i = o by omega) hio
   ·exact ⟨d0, (gH hro).trans d, k, gk, (gi hir).trans h1, (gi hrr).trans h2, h3.ext (oth hio hir h1) fun g hg2 => oth hro hrr (by rw [h2, hg2])⟩
 ·by_cases h1 : some k = go0 ∨ k = b0
  ·rcases hshape k c t h1 hc with ⟨h2, h3⟩ | h2
   ·refine .inl ⟨by rw [h2]; exact List.mem_of_getElem? hg, fun hm => ?_⟩
    obtain ⟨i, hi⟩ := List.mem_iff_getElem?.1 hm
    by_cases e : i = r
    ·subst e; rw [gir] at hi; simp at hi; exact h3 (hi.trans h2)
    ·rw [gi e] at hi; exact neg e hi h2
   ·exact .inr h2
  ·exact .inr ⟨c, by rw [hold k (Array.getElem?_eq_some_iff.1 hc).1 (fun e => h1 (.inr e)) (fun e => h1 (.inl e))]; exact hc, rfl⟩
theorem good_wstr {w1 w2 : World} (hr : Rel F H ι w) {o T E r b : Nat} {p v v' : Value} {bs bs' : List UInt8} (hH : H[o]? = some (.bld T E r bs)) (hb : ι[o]? = some (some b)) (hg : ι[r]? = some v.ownBlock) (hbk : w.heap[b]? = some (.cells #[p, v] T (0, 0)))
  (hT : Turned w w1 b #[.pointer (some ⟨b, 0, none⟩), v] T) (hG : Grew w1 w2 v.ownBlock v'.ownBlock) (ho : w2.ownsRow 0 E 1 v' bs'.length (bs'.map fun x => .int .u8 x.toNat)) (hne : v.ownBlock ≠ some b) :
  Good F H ι w (H.set o (.bld T E r bs')) (ι.set r v'.ownBlock) (w2.setCell ⟨b, 1, none⟩ v') := by
 have hblt : b < w.heap.size := (Array.getElem?_eq_some_iff.1 hbk).1
 have hs1 := hT.size
 have hb2 : w2.heap[b]? = some (.cells #[.pointer (some ⟨b, 0, none⟩), v] T (0, 0)) := by rw [hG.old b (by omega) (fun e => hne e.symm)]; exact hT.at'
 have hsz : (w2.setCell ⟨b, 1, none⟩ v').heap.size = w2.heap.size := by simp [World.setCell]
 have hbw : (w2.setCell ⟨b, 1, none⟩ v').heap[b]? = some (.cells #[.pointer (some ⟨b, 0, none⟩), v'] T (0, 0)) := by simp [World.setCell, Array.getElem?_modify, hb2]
 have hko : ∀ k, k ≠ b → (w2.setCell ⟨b, 1, none⟩ v').heap[k]? = w2.heap[k]? := fun k hk => Below.heap_setCell _ _ _ _ (fun e => hk (by simpa using e))
 have hnb : ∀ g, v'.ownBlock = some g → g ≠ b := fun g h e => by
  rcases (hG.new g h).2 with h1 | h1
  ·exact hne (by rw [h1, e])
  ·omega
 have hgs := hG.size
 refine good_setBld hr hH hb hg (hG.os.trans hT.os) (hG.tape.trans hT.tape) (hG.output.trans hT.output) (by rw [hsz]; omega) (fun k hk h1 h2 => ?_) (fun g h => ?_) (fun g c t h hc => ?_) (.inr ⟨bs', rfl, _, v', hbw, .inr rfl, rfl, ?_⟩)
 ·rw [hko k h1, hG.old k (by omega) h2, hT.other k h1]
 ·obtain ⟨h1, h2⟩ := hG.new g h
  exact ⟨by rw [hsz]; exact h1, by rw [← hs1]; exact h2⟩
 ·by_cases hgb : g = b
  ·subst hgb
   rw [hbk] at hc; simp at hc; obtain ⟨rfl, rfl⟩ := hc
   exact .inr ⟨_, hbw, rfl⟩
  ·have h1 : v.ownBlock = some g := (h.resolve_right hgb).symm
   obtain ⟨c', h2, h3⟩ := hG.shape g c t h1 (by rw [hT.other g hgb]; exact hc)
   exact .inr ⟨c', by rw [hko g hgb]; exact h2, h3⟩
 ·rcases ho with ⟨o1, o2 | ⟨g, cap, cur, o2, o3, o4, o5⟩⟩
  ·exact ⟨o1, .inl o2⟩
  ·exact ⟨o1, .inr ⟨g, cap, cur, o2, o3, by rw [hko g (hnb g (by rw [o2]; rfl))]; exact o4, o5⟩⟩
theorem good_endBld (hr : Rel F H ι w) {o T E r b : Nat} {go : Option Nat} {bs : List UInt8} (hH : H[o]? = some (.bld T E r bs)) (hb : ι[o]? = some (some b)) (hg : ι[r]? = some go)
  (hos : w'.os = w.os) (htape : w'.tape = w.tape) (hout : w'.output = w.output) (hsz : w.heap.size ≤ w'.heap.size) (hold : ∀ k, k < w.heap.size → some k ≠ go → w'.heap[k]? = w.heap[k]?) :
  Good F H ι w (H.set o .dead) (ι.set r none) w' := by
 have hor := (hr.bldr o T E r bs hH).1
 have hne : go ≠ some b := fun e => by have := hr.inj o r b hb (by rw [hg, e]); omega
 refine good_setBld hr hH hb hg hos htape hout hsz (fun k hk _ h => hold k hk h) (fun g h => by cases h) (fun g c t h hc => ?_) (.inl rfl)
 by_cases hgo : some g = go
 ·exact .inl ⟨hgo, by rw [← hgo]; simp⟩
 ·exact .inr ⟨c, by rw [hold g (Array.getElem?_eq_some_iff.1 hc).1 hgo]; exact hc, rfl⟩
theorem ops_bld {P : Program} {o : Oper} {fr : List V} {H : List Obj} (T E : TypeId) (h : o.op = .alloc T) (hz : ((P.info? T).bind (·.zero)).map (·.cells) = some #[.pointer none, .slice none 0 0]) : OpS P o fr H (.bp H.length) (H ++ [.bld T E (H.length + 1) [], .dead]) := fun F ι a w hr hf => by
 simp only [Option.map_eq_some_iff, Option.bind_eq_some_iff] at hz
 obtain ⟨z, ⟨i, hi, hz⟩, hc⟩ := hz
 have g := good_pushBld hr E (Pushed.alloc w #[.pointer none, .slice none 0 0] T)
 refine ⟨_, .pointer (some ⟨w.heap.size, 0, none⟩), _, _, ?_, .inl rfl, g, .bp _ w.heap.size T E (H.length + 1) [] (by rw [← hr.len]; simp) (by simp)⟩
 simp [execOp, h, Instr.alloc, zeroValue, typeInfo, hi, hz, newVar, newRow, hc]
end
end Go.AM
