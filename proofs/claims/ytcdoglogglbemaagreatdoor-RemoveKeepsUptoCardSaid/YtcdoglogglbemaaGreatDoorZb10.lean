/- Declarations that the closing texts need, part 10: joined by tools/slim.py. -/
import Derived.Test.YtcdoglogglbemaaGreatDoorZb9
import Derived.Laws.Cover3
set_option linter.unusedVariables false
set_option linter.unusedSimpArgs false
namespace Go.AM
open Go.RowKit
def OpN (P : Program) (o : Oper) (fr : List V) (H : List Obj) (B : V -> Prop) : Prop :=
 ∀ F ι a w, Rel F H ι w -> Fr F H ι w fr a -> ∃ x v, B x /\ (execOp a.eval o).run P w = .ok (.value v) w /\ RV F H ι w x v
theorem Zbi {P : Program} {o : Oper} {fr : List V} {H : List Obj} {t t2 e : TypeId} {x y : Operand} {c : Bool} {xs : List PV} (h : o.op = .binOp .eql t x y t2) (hu : P.underlying t = some (.slice e))
  (hx : ev fr x = .p (.list c xs)) (hy : ∀ a : Act, a.eval y = .slice none 0 0) : OpN P o fr H (fun z => ∃ b : Bool, z = .p (.bool b) /\ (b = true -> xs = [])) := fun F ι a w hr hf => by
 have h1 := hf.ev x;rw [hx] at h1
 cases h1 with | p _ _ h1 =>
 generalize hxe : a.eval x = vx at h1
 have out : ∀ (ad : Option Addr) (n m : Nat), vx = .slice ad n m -> (ad = none -> xs = []) -> ∃ x v, (∃ b : Bool, x = .p (.bool b) /\ (b = true -> xs = [])) /\ (execOp a.eval o).run P w = .ok (.value v) w /\ RV F H ι w x v := fun ad n m hv hn => by
  subst hv;refine ⟨.p (.bool ad.isNone), .bool ad.isNone, ⟨_, rfl, fun hb => hn (by cases ad <;> simp_all)⟩, ?_, .p _ _ (.bool _)⟩;simp only [execOp, h, hxe, hy, eqGuard_at_slice, binOp];simp [run_equal_slice_nil w t e ad n m hu]
 cases h1 with
 | nils => exact out none 0 0 rfl fun _ => rfl
 | emp _ ad cap => exact out ad 0 cap rfl fun _ => rfl
 | list _ _ b off cap => exact out _ _ _ rfl fun h => by cases h
theorem UU (n : Nat) {P : Program} {id : Nat} {l : List Oper} {o : Oper} {fr : List V} {H : List Obj} {Q : Exit -> List V -> List Obj -> Prop} (ho : l = l.take n ++ o :: l.drop (n + 1)) (hg : o.guard = none)
  (h : Yg P (l.map (·.dst)) (l.take n) fr H fun fr' H' => ∃ B, OpN P o fr' H' B /\ ∀ y, B y -> Yg P (l.map (·.dst)) (l.drop (n + 1)) (ptO fr' o.dst y) H' (Q .normal)) : AWP P (.region id (List.toArray l) false) fr H Q := by
 intro F ι a w hr hf;refine wp_region_list ?_;have key := XD (P := P) (ops := List.toArray l) (Q := fun e a' w' => ∃ fr' H' ι', Q e fr' H' /\ Good F H ι w H' ι' w' /\ Fr F H' ι' w' fr' a') (r := o :: l.drop (n + 1)) (l.take n) fr H _ (by simpa using h) F ι a w hr hf ?_
 ·rw [<- ho] at key;simpa using key
 ·rintro fr' H' ι' a' w' ⟨B, hp, hk⟩ g f;simp only [wpList]
  have hw : Region.wanted o (yielded (List.toArray l) a'.tmps) = true := by simp [Region.wanted, hg]
  rw [if_pos hw];refine .inl ?_;obtain ⟨y, v, hB, hrun, hrv⟩ := hp F ι' a' w' g.rel f;unfold Oper.wp;rw [hrun];exact ZP (P := P) (ops := List.toArray l) _ _ H' _ (by simpa using hk y hB) F ι' _ w' g.rel (f.put o.dst hrv) fun fr2 H3 ι3 a3 w3 k3 g3 f3 => ⟨fr2, H3, ι3, k3, g.trans g3, f3⟩
def ZnC (S : Nat) (z : PV) (H : List Obj) (ob : Obj) (o off len tot : Nat) : Option (V × List Obj) := match ob with
 | .elems S' xs => if S = S' /\ xs.length = tot /\ off + len <= tot then some (.tup [], ost H o (.elems S' (xs.take off ++ List.replicate len z ++ xs.drop (off + len)))) else none
 | _ => none
theorem Jf {P : Program} {H : List Obj} {t e : TypeId} {z : PV} {S o off len tot : Nat} (hu : P.underlying t = some (.slice e)) (hz : Qg P e = some z) (hs : z.cells.length = S) (h1 : z.cells.all (·.one) = true) :
  Up P H t (.sl o off len tot) = ZnC S z H (oat H o) o off len tot := by
 simp only [Up, hu, hz];unfold ZnC
 cases oat H o <;> simp [hs, h1]
@[go_sem] theorem ZxS {S : Nat} {z : PV} {H : List Obj} {xs : List PV} {o off len tot : Nat} (h2 : off + len <= tot) :
  ZnC S z H (.elems S xs) o off len tot = if xs.length = tot then some (.tup [], ost H o (.elems S (xs.take off ++ List.replicate len z ++ xs.drop (off + len)))) else none := by
 simp only [ZnC]
 by_cases h0 : xs.length = tot
 ·rw [if_pos ⟨trivial, h0, h2⟩, if_pos h0]
 ·rw [if_neg (fun h => h0 h.2.1), if_neg h0]
def Zkh (T : Option (Option Nat × Nat)) (ob : Obj) (o off len tot : Nat) (x y : V) : Option V := match T, ob, x, y with
 | some (none, S), .elems S' xs, .p (.int _ l), .p (.int _ h) => if S' = S /\ xs.length = tot /\ 0 <= l /\ l < h /\ h <= len then some (.sl o (off + l.toNat) (h.toNat - l.toNat) tot) else none
 | _, _, _, _ => none
section
variable {P : Program} {H : List Obj} {t : TypeId} {fr : List V} {o off len tot : Nat}
@[go_sem] theorem ZnH {lo : Operand} : XK P H t fr (.sl o off len tot) (some lo) none none = Zkh (YF P t) (oat H o) o off len tot (ev fr lo) (.p (.int .i64 (len : Int))) := by
 cases hX : ev fr lo with
 | p x => cases x <;> (rcases hT : YF P t with _ | ⟨_ | _, S⟩ <;> cases hO : oat H o <;> simp [XK, abd, Zkh, hX, hT, hO])
 | _ => rcases hT : YF P t with _ | ⟨_ | _, S⟩ <;> cases hO : oat H o <;> simp [XK, abd, Zkh, hX, hT, hO]
@[go_sem] theorem ZmN {hi : Operand} : XK P H t fr (.sl o off len tot) none (some hi) none = Zkh (YF P t) (oat H o) o off len tot (.p (.int .i64 0)) (ev fr hi) := by
 cases hX : ev fr hi with
 | p x => cases x <;> (rcases hT : YF P t with _ | ⟨_ | _, S⟩ <;> cases hO : oat H o <;> simp [XK, abd, Zkh, hX, hT, hO])
 | _ => rcases hT : YF P t with _ | ⟨_ | _, S⟩ <;> cases hO : oat H o <;> simp [XK, abd, Zkh, hX, hT, hO]
@[go_sem] theorem Zy1 {S : Nat} {xs : List PV} {k k' : IntKind} {l h : Int} (h1 : 0 <= l) (h2 : l < h) (h3 : h <= len) :
  Zkh (some (none, S)) (.elems S xs) o off len tot (.p (.int k l)) (.p (.int k' h)) = if xs.length = tot then some (.sl o (off + l.toNat) (h.toNat - l.toNat) tot) else none := by
 simp only [Zkh]
 by_cases h0 : xs.length = tot
 ·rw [if_pos ⟨trivial, h0, h1, h2, h3⟩, if_pos h0]
 ·rw [if_neg (fun h => h0 h.2.1), if_neg h0]
end
theorem Ky {P : Program} {o : Oper} {fr : List V} {H : List Obj} {t : TypeId} {S S' : Nat} {x hi : Operand} {o' len tot : Nat} {xs : List PV} {k : IntKind} (h : o.op = .slice t x none (some hi) none) (ht : YF P t = some (none, S))
  (hx : ev fr x = .sl o' 0 len tot) (hH : H[o']? = some (.elems S' xs)) (hl : xs.length = tot) (hh : ev fr hi = .p (.int k 0)) : OpN P o fr H (fun z => z = .p (.list false [])) := fun F ι a w hr hf => by
 have h1 := hf.ev x;have h2 := hf.ev hi;rw [hx] at h1;rw [hh] at h2;obtain ⟨e, hu, hs⟩ := YL ht;have hb : WU len (some (a.eval hi)) 0 := .inr ⟨k, by cases h2 with | p _ _ h2 => rw [h2.int_inv]; rfl⟩
 obtain ⟨ad, cap, e1, e2, e3⟩ : ∃ ad cap, a.eval x = .slice ad len cap /\ cap <= maxLen /\ (0 < cap -> ∀ y, ad = some y -> y.spot = none) := by
  generalize a.eval x = vx at h1
  cases h1 with
  | slNil => exact ⟨_, 0, rfl, Nat.zero_le _, fun h => absurd h (Nat.lt_irrefl _)⟩
  | sl _ _ _ _ b S2 cap t2 xs2 c hι hH2 ht2 hw2 hcap hl hlen hm => exact ⟨_, cap, rfl, by omega, fun _ y hy => by simp at hy; subst hy; rfl⟩
  | slD _ _ _ _ _ hd => rw [hH] at hd; cases hd
  | slS _ _ _ _ _ S2 xs2 hd hne => rw [hH] at hd; simp at hd; obtain ⟨_, rfl⟩ := hd; omega
  | slC _ _ _ _ _ _ hd => rw [hH] at hd; cases hd
 have hrun := Wx (w := w) (a := ad) (len := len) (cap := cap) (lo := none) none hu hs (.inl ⟨rfl, rfl⟩) (.inl ⟨rfl, hb, rfl⟩) (Nat.le_refl 0) (Nat.zero_le cap) (Nat.le_refl cap);refine ⟨_, .slice (if cap = 0 then ad else Option.map (fun x => x.add (0 * S)) ad) 0 cap, rfl, by simp [execOp, h, e1, hrun], .p _ _ (.emp false _ _ (fun h => by cases h) (by omega) fun hc y hy => ?_)⟩
 split at hy
 ·exact e3 (by omega) y hy
 ·simp only [Option.map_eq_some_iff] at hy;obtain ⟨z, hz, rfl⟩ := hy;have := e3 (by omega) z hz
  cases z
  simp only at this;subst this;rw [Addr.add_lit]
end Go.AM
