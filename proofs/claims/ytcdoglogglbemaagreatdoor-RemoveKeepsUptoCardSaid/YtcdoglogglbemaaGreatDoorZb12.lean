/- Declarations that the closing texts need, part 12: joined by tools/slim.py. -/
import Derived.Test.YtcdoglogglbemaaGreatDoorZb11
import Derived.Lib.Builder
set_option linter.unusedVariables false
set_option linter.unusedSimpArgs false
namespace Go.AM
open Go.RowKit
@[go_sem ↓] theorem ZuS {c : Code} {t} : hid (Zv c t) = hid c := Eq.trans rfl rfl
section
variable {F : Nat -> Prop} {H : List Obj} {ι : List (Option Nat)} {w w' : World}
end
section
variable {P : Program} {t : TypeId} {α : Type} [DecidableEq α] {ek : α -> PV} {R : α -> Prop}
variable {H : List Obj} {o : Nat} {l : List (α × Int)} {k : α} {K : V -> List Obj -> Prop}
end
@[go_sem ↓] theorem Zix {P : Program} {fr : List V} {H : List Obj} {k : V -> List Obj -> Prop} {d : Option Nat} {u t : TypeId} {x y : Operand} {ok : Bool} {ps : String} {af : Array Edge} {g : Option (Nat × Bool)} : Zt P ⟨d, .lookup u x y ok, t, ps, af, g⟩ fr H k = Zr P ⟨d, .lookup u x y ok, t, ps, af, g⟩ fr H k := rfl
theorem Wt {n : Nat} {x : Obj} (h : shO n x = .dead) : x = .dead := by cases x <;> simp [shO] at h; rfl
theorem Qo {n : Nat} {x : Obj} {cs : List V} (h : shO n x = .cells cs) : ∃ c0, x = .cells c0 /\ cs = J4 n c0 := by cases x <;> simp [shO] at h; exact ⟨_, rfl, h.symm⟩
theorem YO {n : Nat} {x : Obj} {S : Nat} {xs : List PV} (h : shO n x = .elems S xs) : x = .elems S xs := by cases x <;> simp [shO] at h; obtain ⟨rfl, rfl⟩ := h; rfl
theorem Zf4 {n : Nat} {x : Obj} {es} (h : shO n x = .map es) : x = .map es := by cases x <;> simp [shO] at h; subst h; rfl
theorem ZgP {n : Nat} {x : Obj} {T E r bs} (h : shO n x = .bld T E r bs) : ∃ r0, x = .bld T E r0 bs /\ r = n + r0 := by cases x <;> simp [shO] at h; obtain ⟨rfl, rfl, rfl, rfl⟩ := h; exact ⟨_, rfl, rfl⟩
section
variable {F : Nat -> Prop} {R H0 : List Obj} {ιR ι0 : List (Option Nat)} {w : World}
theorem Uo (hl : ιR.length = R.length) {o : Nat} : (ιR ++ ι0)[R.length + o]? = ι0[o]? := by rw [<- hl]; exact Zp
theorem Zbl {o : Nat} {x : Obj} (h : (R ++ H0.map (shO R.length))[R.length + o]? = some x) : ∃ y, H0[o]? = some y /\ x = shO R.length y := by
 rw [Zp] at h;simp only [List.getElem?_map, Option.map_eq_some_iff] at h;obtain ⟨y, h1, h2⟩ := h;exact ⟨y, h1, h2.symm⟩
theorem QI {o : Nat} {y : Obj} (h : H0[o]? = some y) : (R ++ H0.map (shO R.length))[R.length + o]? = some (shO R.length y) := by
 rw [Zp]; simp [h]
theorem RV.unsh (hl : ιR.length = R.length) : ∀ {x : V} {v : Value}, RV F (R ++ H0.map (shO R.length)) (ιR ++ ι0) w (shV R.length x) v -> RV (Own F ιR) H0 ι0 w x v
 | .p x, v, h => by
  cases h with | p _ _ h => exact .p _ _ (by rw [XE]; exact h)
 | .agg cs, v, h => by
  simp only [shV] at h
  cases h with | agg _ a hs hr =>
  refine .agg cs a (by simpa [ZW] using hs) fun j c hj => ?_;have := List.sizeOf_lt_of_mem (List.mem_of_getElem? hj);exact RV.unsh hl (hr j (shV R.length c) (by rw [ZW]; simp [hj]))
 | .fn f cs ds, v, h => by
  simp only [shV] at h
  cases h with | fn _ _ _ a e hs ht h1 h2 =>
  refine .fn f cs ds a e (by simpa [ZW] using hs) (by simpa [ZW] using ht) (fun j c hj => ?_) (fun j c hj => ?_)
  ·have := List.sizeOf_lt_of_mem (List.mem_of_getElem? hj);exact RV.unsh hl (h1 j (shV R.length c) (by rw [ZW]; simp [hj]))
  ·have := List.sizeOf_lt_of_mem (List.mem_of_getElem? hj);exact RV.unsh hl (h2 j (shV R.length c) (by rw [ZW]; simp [hj]))
 | .tup cs, v, h => by
  simp only [shV] at h
  cases h with | tup _ a hs hr =>
  refine .tup cs a (by simpa [ZW] using hs) fun j c hj => ?_;have := List.sizeOf_lt_of_mem (List.mem_of_getElem? hj);exact RV.unsh hl (hr j (shV R.length c) (by rw [ZW]; simp [hj]))
 | .ptr o off, v, h => by
  simp only [shV] at h
  cases h with
  | ptr _ _ b cs h hH =>
   obtain ⟨y, h1, h2⟩ := Zbl hH;obtain ⟨c0, rfl, _⟩ := Qo h2.symm;exact .ptr _ _ b c0 (by rw [<- Uo hl]; exact h) h1
  | ptrD _ _ _ h =>
   obtain ⟨y, h1, h2⟩ := Zbl h;rw [Wt h2.symm] at h1;exact .ptrD _ _ _ h1
 | .ep o i j tot, v, h => by
  simp only [shV] at h
  cases h with
  | ep _ _ _ _ b S xs h hH ht =>
   obtain ⟨y, h1, h2⟩ := Zbl hH;rw [YO h2.symm] at h1;exact .ep _ _ _ _ b S xs (by rw [<- Uo hl]; exact h) h1 ht
  | epD _ _ _ _ _ h =>
   obtain ⟨y, h1, h2⟩ := Zbl h;rw [Wt h2.symm] at h1;exact .epD _ _ _ _ _ h1
  | epS _ _ _ _ _ S xs h hne =>
   obtain ⟨y, h1, h2⟩ := Zbl h;rw [YO h2.symm] at h1;exact .epS _ _ _ _ _ S xs h1 hne
 | .sl o off len tot, v, h => by
  simp only [shV] at h;generalize ho : R.length + o = o' at h
  cases h with
  | slNil _ S a h hH =>
   subst ho;obtain ⟨y, h1, h2⟩ := Zbl hH;rw [YO h2.symm] at h1;exact .slNil _ S a (by rw [<- Uo hl]; exact h) h1
  | sl _ _ _ _ b S cap t xs c h hH ht hw hcap hl' hlen hm =>
   subst ho;obtain ⟨y, h1, h2⟩ := Zbl hH;rw [YO h2.symm] at h1;exact .sl _ _ _ _ b S cap t xs c (by rw [<- Uo hl]; exact h) h1 ht hw hcap hl' hlen hm
  | slD _ _ _ _ _ h =>
   subst ho;obtain ⟨y, h1, h2⟩ := Zbl h;rw [Wt h2.symm] at h1;exact .slD _ _ _ _ _ h1
  | slS _ _ _ _ _ S xs h hne =>
   subst ho;obtain ⟨y, h1, h2⟩ := Zbl h;rw [YO h2.symm] at h1;exact .slS _ _ _ _ _ S xs h1 hne
  | slC _ _ b cap cs h hH hl' hm =>
   subst ho;obtain ⟨y, h1, h2⟩ := Zbl hH;obtain ⟨c0, rfl, _⟩ := Qo h2.symm;exact .slC _ _ b cap c0 (by rw [<- Uo hl]; exact h) h1 hl' hm
 | .lp x j, v, h => by
  simp only [shV] at h
  cases h with | lp _ _ b off u hX hb hu hq => exact .lp x j b off u (by rw [XE]; exact hX) hb hu (fun j c hj => by rw [XE]; exact hq j c hj)
 | .mp o, v, h => by
  simp only [shV] at h
  cases h with
  | mp _ b es h hH =>
   obtain ⟨y, h1, h2⟩ := Zbl hH;rw [Zf4 h2.symm] at h1;exact .mp _ b es (by rw [<- Uo hl]; exact h) h1
  | mpD _ _ h =>
   obtain ⟨y, h1, h2⟩ := Zbl h;rw [Wt h2.symm] at h1;exact .mpD _ _ h1
 | .bp o, v, h => by
  simp only [shV] at h
  cases h with
  | bp _ b T E r bs h hH =>
   obtain ⟨y, h1, h2⟩ := Zbl hH;obtain ⟨r0, rfl, _⟩ := ZgP h2.symm;exact .bp _ b T E r0 bs (by rw [<- Uo hl]; exact h) h1
  | bpD _ _ h =>
   obtain ⟨y, h1, h2⟩ := Zbl h;rw [Wt h2.symm] at h1;exact .bpD _ _ h1
 | .junk, v, _ => .junk v
theorem Rel.back (hl : ιR.length = R.length) (hr : Rel F (R ++ H0.map (shO R.length)) (ιR ++ ι0) w) : Rel (Own F ιR) H0 ι0 w := by
 have hlen : ι0.length = H0.length := by have := hr.len; simp at this; omega
 have gL : ∀ {i : Nat} {b : Nat}, ιR[i]? = some (some b) -> (ιR ++ ι0)[i]? = some (some b) := fun h => by rw [List.getElem?_append_left (List.getElem?_eq_some_iff.1 h).1]; exact h
 refine ⟨⟨hlen, fun b hb => ?_, fun i j b hi hj => ?_, fun i b hi => ?_, fun o cs ho => ?_, fun o S xs ho => ?_, fun o es ho => ?_, fun o T E r bs ho => ?_⟩, hr.env.le fun b hb => by rw [XE] at hb; exact hb⟩
 ·rcases hb with hb | hb
  ·exact hr.fin b hb
  ·obtain ⟨i, hi⟩ := List.mem_iff_getElem?.1 hb;exact (hr.avo i b (gL hi)).2
 ·have := hr.inj (R.length + i) (R.length + j) b (by rw [Uo hl]; exact hi) (by rw [Uo hl]; exact hj);omega
 ·obtain ⟨a1, a2⟩ := hr.avo (R.length + i) b (by rw [Uo hl]; exact hi);refine ⟨fun h => ?_, a2⟩;rcases h with h | h
  ·exact a1 h
  ·obtain ⟨j, hj⟩ := List.mem_iff_getElem?.1 h;have := hr.inj (R.length + i) j b (by rw [Uo hl]; exact hi) (gL hj);have := (List.getElem?_eq_some_iff.1 hj).1;omega
 ·obtain ⟨b, c, t, e1, e2, e3, e4⟩ := hr.cel (R.length + o) (J4 R.length cs) (QI ho);exact ⟨b, c, t, by rw [<- Uo hl]; exact e1, e2, by simpa [ZW] using e3, fun j x hj => RV.unsh hl (e4 j (shV R.length x) (by rw [ZW]; simp [hj]))⟩
 ·rcases hr.elm (R.length + o) S xs (QI ho) with ⟨e1, e2⟩ | ⟨b, c, t, cap, e1, e2, e3, e4, e5, e6, e7⟩
  ·exact .inl ⟨by rw [<- Uo hl]; exact e1, e2⟩
  ·exact .inr ⟨b, c, t, cap, by rw [<- Uo hl]; exact e1, e2, e3, e4, e5, e6, fun i x j y hi hj => by rw [XE]; exact e7 i x j y hi hj⟩
 ·obtain ⟨b, a', k, e1, e2, e3⟩ := hr.mpr (R.length + o) es (QI ho);exact ⟨b, a', k, by rw [<- Uo hl]; exact e1, e2, by rw [XE]; exact e3⟩
 ·obtain ⟨d0, d, b, go, e1, e2, e3⟩ := hr.bldr (R.length + o) T E (R.length + r) bs (QI ho);obtain ⟨y, h1, h2⟩ := Zbl d;rw [Wt h2.symm] at h1;exact ⟨by omega, h1, b, go, by rw [<- Uo hl]; exact e1, by rw [<- Uo hl]; exact e2, e3⟩
def Zmk (R : List Obj) : Bool := R.all fun o => match o with | .bld _ _ r _ => decide (r < R.length) | _ => true
theorem ZfC {R : List Obj} (h : Zmk R = true) {o T E r : Nat} {bs : List UInt8} (ho : R[o]? = some (.bld T E r bs)) : r < R.length := by
 have := List.all_eq_true.1 h _ (List.mem_of_getElem? ho);simpa using this
theorem Good.back (hb0 : Zmk R = true) (hl : ιR.length = R.length) (hr : Rel F (R ++ H0.map (shO R.length)) (ιR ++ ι0) w) {H1 : List Obj} {ι1 : List (Option Nat)} {w' : World} (g : Good (Own F ιR) H0 ι0 w H1 ι1 w') : Good F (R ++ H0.map (shO R.length)) (ιR ++ ι0) w (R ++ H1.map (shO R.length)) (ιR ++ ι1) w' := by
 have hl1 := g.rel.len
 have hl0 : ι0.length = H0.length := by have := hr.len; simp at this; omega
 have gL : ∀ {i : Nat} {q : Option Nat} (κ : List (Option Nat)), ιR[i]? = some q -> (ιR ++ κ)[i]? = some q := fun κ h => by rw [List.getElem?_append_left (List.getElem?_eq_some_iff.1 h).1]; exact h
 have disj : ∀ {b : Nat}, some b ∈ ιR -> some b ∉ ι0 := fun {b} hb h => by
  obtain ⟨i, hi⟩ := List.mem_iff_getElem?.1 hb;obtain ⟨j, hj⟩ := List.mem_iff_getElem?.1 h;have hil := (List.getElem?_eq_some_iff.1 hi).1;have := hr.inj i (R.length + j) b (gL _ hi) (by rw [Uo hl]; exact hj);omega
 have oldR : ∀ {j b : Nat}, ιR[j]? = some (some b) -> b < w.heap.size /\ w'.heap[b]? = w.heap[b]? := fun {j b} h => by
  have h1 := (hr.avo j b (gL _ h)).2;exact ⟨h1, g.keep b h1 (disj (List.mem_of_getElem? h))⟩
 have hKeeps : Keeps (Own F (ιR ++ ι0)) w (Own F (ιR ++ ι1)) w' := fun b hb hs => by
  have h0 : some b ∉ ι0 := fun h => hb (.inr (by simp [h]));refine ⟨fun h => ?_, by have := g.size; omega, g.keep b hs h0⟩;rcases h with h | h
  ·exact hb (.inl h)
  ·rcases List.mem_append.1 h with h | h
   ·exact hb (.inr (by simp [h]))
   ·exact g.own b hs h0 h
 have split : ∀ {κ : List Obj} {o : Nat} {x : Obj}, (R ++ κ.map (shO R.length))[o]? = some x -> (o < R.length /\ R[o]? = some x) \/ ∃ j y, o = R.length + j /\ κ[j]? = some y /\ x = shO R.length y := fun {κ o x} h => by
  rcases Xv h with h | ⟨j, rfl, hj⟩
  ·exact .inl h
  ·simp only [List.getElem?_map, Option.map_eq_some_iff] at hj;obtain ⟨y, h1, h2⟩ := hj;exact .inr ⟨j, y, rfl, h1, h2.symm⟩
 have gR : ∀ {o : Nat} {x : Obj} (κ : List Obj), R[o]? = some x -> (R ++ κ)[o]? = some x := fun κ h => by rw [List.getElem?_append_left (List.getElem?_eq_some_iff.1 h).1]; exact h
 have gi : ∀ {o : Nat} (κ : List (Option Nat)), o < R.length -> (ιR ++ κ)[o]? = ιR[o]? := fun κ h => List.getElem?_append_left (by omega)
 have hHX : HX (R ++ H0.map (shO R.length)) (ιR ++ ι0) w (R ++ H1.map (shO R.length)) (ιR ++ ι1) w' := fun o ob ho => by
  rcases split ho with ⟨hlt, h0⟩ | ⟨j, y, rfl, hj, rfl⟩
  ·have e1 := gR (H1.map (shO R.length)) h0
   cases ob with
   | dead => exact .inl e1
   | cells cs => exact .inr ⟨⟨_, e1⟩, by rw [gi _ hlt, gi _ hlt]⟩
   | map es => exact .inr ⟨⟨_, e1⟩, by rw [gi _ hlt, gi _ hlt]⟩
   | bld T E r bs => exact .inr ⟨⟨_, e1⟩, by rw [gi _ hlt, gi _ hlt]⟩
   | elems S xs => exact .inr ⟨_, e1, .inr ⟨rfl, by rw [gi _ hlt, gi _ hlt], fun b c t hb hc => ⟨c, by rw [gi _ hlt] at hb; rw [(oldR hb).2]; exact hc, rfl⟩⟩⟩
  ·have e2 : (ιR ++ ι0)[R.length + j]? = ι0[j]? := Uo hl;have e3 : (ιR ++ ι1)[R.length + j]? = ι1[j]? := Uo hl;rcases g.hx j y hj with h | h
   ·exact .inl (QI h)
   ·right
    cases y with
    | dead => exact h.elim
    | cells cs => exact ⟨by obtain ⟨cs', h⟩ := h.1; exact ⟨_, QI h⟩, by rw [e2, e3]; exact h.2⟩
    | map es => exact ⟨by obtain ⟨cs', h⟩ := h.1; exact ⟨_, QI h⟩, by rw [e2, e3]; exact h.2⟩
    | bld T E r bs => exact ⟨by obtain ⟨cs', h⟩ := h.1; exact ⟨_, QI h⟩, by rw [e2, e3]; exact h.2⟩
    | elems S xs =>
     obtain ⟨xs', h1, h2⟩ := h;exact ⟨xs', QI h1, by rw [e2, e3]; exact h2⟩
 have old : ∀ {i b : Nat}, (ιR ++ ι1)[i]? = some (some b) -> (i < R.length /\ ιR[i]? = some (some b)) \/ ∃ j, i = R.length + j /\ ι1[j]? = some (some b) := fun {i b} h => by
  rcases Xv h with h | ⟨j, rfl, hj⟩
  ·exact .inl ⟨by omega, h.2⟩
  ·exact .inr ⟨j, by omega, hj⟩
 refine Good.up hr.env ⟨⟨by simp; omega, fun b hb => by have := hr.fin b hb; have := g.size; omega, fun i j b hi hj => ?_, fun i b hi => ?_, fun o cs ho => ?_, fun o S xs ho => ?_, fun o es ho => ?_, fun o T E r bs ho => ?_⟩, g.os, g.tape, g.output, fun b c t h => (g.shape b c t h).imp (fun h => ⟨List.mem_append_right _ h.1, fun h3 => (List.mem_append.1 h3).elim (fun h4 => disj h4 h.1) h.2⟩) id, g.size, fun b hb ho => g.keep b hb fun h => ho (by simp [h]), fun b hb ho h => ?_, hHX⟩
 ·rcases old hi with ⟨h1, h2⟩ | ⟨i1, rfl, h2⟩ <;> rcases old hj with ⟨k1, k2⟩ | ⟨j1, rfl, k2⟩
  ·exact hr.inj i j b (gL _ h2) (gL _ k2)
  ·exact absurd (.inr (List.mem_of_getElem? h2)) (g.rel.avo j1 b k2).1
  ·exact absurd (.inr (List.mem_of_getElem? k2)) (g.rel.avo i1 b h2).1
  ·rw [g.rel.inj i1 j1 b h2 k2]
 ·rcases old hi with ⟨h1, h2⟩ | ⟨i1, rfl, h2⟩
  ·obtain ⟨a1, a2⟩ := hr.avo i b (gL _ h2);have := g.size;exact ⟨a1, by omega⟩
  ·obtain ⟨a1, a2⟩ := g.rel.avo i1 b h2;exact ⟨fun h => a1 (.inl h), a2⟩
 ·rcases split ho with ⟨h1, h2⟩ | ⟨j, y, rfl, h2, h3⟩
  ·obtain ⟨b, c, t, e1, e2, e3, e4⟩ := hr.cel o cs (gR _ h2);rw [gi _ h1] at e1;exact ⟨b, c, t, gL _ e1, by rw [(oldR e1).2]; exact e2, e3, fun j x hj => (e4 j x hj).ext hKeeps hHX⟩
  ·obtain ⟨c0, rfl, rfl⟩ := Qo h3.symm;obtain ⟨b, c, t, e1, e2, e3, e4⟩ := g.rel.cel j c0 h2;refine ⟨b, c, t, by rw [Uo hl]; exact e1, e2, by simp [ZW, e3], fun q x hq => ?_⟩;rw [ZW] at hq;simp only [List.getElem?_map, Option.map_eq_some_iff] at hq;obtain ⟨x', h4, rfl⟩ := hq;exact (e4 q x' h4).sh hl
 ·rcases split ho with ⟨h1, h2⟩ | ⟨j, y, rfl, h2, h3⟩
  ·rcases hr.elm o S xs (gR _ h2) with ⟨e1, e2⟩ | ⟨b, c, t, cap, e1, e2, e3, e4, e5, e6, e7⟩
   ·rw [gi _ h1] at e1;exact .inl ⟨gL _ e1, e2⟩
   ·rw [gi _ h1] at e1;exact .inr ⟨b, c, t, cap, gL _ e1, by rw [(oldR e1).2]; exact e2, e3, e4, e5, e6, fun i x j y hi hj => (e7 i x j y hi hj).ext hKeeps⟩
  ·rw [YO h3.symm] at h2;rcases g.rel.elm j S xs h2 with ⟨e1, e2⟩ | ⟨b, c, t, cap, e1, e2, e3, e4, e5, e6, e7⟩
   ·exact .inl ⟨by rw [Uo hl]; exact e1, e2⟩
   ·exact .inr ⟨b, c, t, cap, by rw [Uo hl]; exact e1, e2, e3, e4, e5, e6, fun i x j y hi hj => by have := e7 i x j y hi hj; rw [XE] at this; exact this⟩
 ·rcases split ho with ⟨h1, h2⟩ | ⟨j, y, rfl, h2, h3⟩
  ·obtain ⟨b, a', k, e1, e2, e3⟩ := hr.mpr o es (gR _ h2);rw [gi _ h1] at e1;exact ⟨b, a', k, gL _ e1, by rw [(oldR e1).2]; exact e2, e3.ext hKeeps⟩
  ·rw [Zf4 h3.symm] at h2;obtain ⟨b, a', k, e1, e2, e3⟩ := g.rel.mpr j es h2;rw [XE] at e3;exact ⟨b, a', k, by rw [Uo hl]; exact e1, e2, e3⟩
 ·rcases split ho with ⟨h1, h2⟩ | ⟨j, y, rfl, h2, h3⟩
  ·obtain ⟨d0, d, b, go, e1, e2, e3⟩ := hr.bldr o T E r bs (gR _ h2);rw [gi _ h1] at e1;have hrl := ZfC hb0 h2;have ho' := (oldR e1).2
   have d' : R[r]? = some .dead := by rw [List.getElem?_append_left hrl] at d; exact d
   rw [gi _ hrl] at e2;exact ⟨d0, gR _ d', b, go, gL _ e1, gL _ e2, e3.ext ho' fun q hq => (oldR (by rw [e2, hq])).2⟩
  ·obtain ⟨r0, rfl, rfl⟩ := ZgP h3.symm;obtain ⟨d0, d, b, go, e1, e2, e3⟩ := g.rel.bldr j T E r0 bs h2;exact ⟨by omega, QI d, b, go, by rw [Uo hl]; exact e1, by rw [Uo hl]; exact e2, e3⟩
 ·rcases List.mem_append.1 h with h | h
  ·exact ho (by simp [h])
  ·exact g.own b hb (fun h => ho (by simp [h])) h
end
theorem ACalls.back {P g} {args : List V} {H0 : List Obj} {Q : V -> List Obj -> Prop} (h : ACalls P g args H0 Q) (R : List Obj) (hb : Zmk R = true) :
  ACalls P g (J4 R.length args) (R ++ H0.map (shO R.length)) fun x H' => ∃ y H1, Q y H1 /\ x = shV R.length y /\ H' = R ++ H1.map (shO R.length) := by
 refine ⟨h.1, fun F ι w vs hr hv => ?_⟩;have hlen := hr.len;simp at hlen;obtain ⟨ιR, ι0, rfl, hl⟩ : ∃ ιR ι0, ι = ιR ++ ι0 /\ ιR.length = R.length := ⟨ι.take R.length, ι.drop R.length, by simp, by simp; omega⟩;refine (h.2 _ _ _ _ (hr.back hl) ⟨by have := hv.1; simpa [ZW] using this, fun j c hj => RV.unsh hl (hv.2 j (shV R.length c) (by rw [ZW]; simp [hj]))⟩).mono ?_;rintro e w' ⟨x, H1, ι1, v, rfl, q, gd, rv⟩;exact ⟨_, _, _, v, rfl, ⟨x, H1, q, rfl, rfl⟩, gd.back hb hl hr, rv.sh hl⟩
end Go.AM
