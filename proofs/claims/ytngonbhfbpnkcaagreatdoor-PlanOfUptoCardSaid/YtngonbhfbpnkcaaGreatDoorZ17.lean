/- Declarations that the closing texts need, part 17: joined by tools/slim.py. -/
import Derived.Test.YtngonbhfbpnkcaaGreatDoorZ16
import Derived.Shelf.Strings.OnBuilder
set_option linter.unusedVariables false
set_option linter.unusedSimpArgs false
namespace Go.Proofs.YtngonbhfbpnkcaaGreatDoor.K
open Go Go.AM Go.Proofs Go.Shelf Go.RowKit
set_option maxRecDepth 8000
set_option maxHeartbeats 8000000
theorem extJoin : Builder.Extra Tryz.prog layJoin_ren := {
 sizeBuilder := by kernel_rfl, liesBuilder := by kernel_rfl,
 t5 := Tryz.underlying5, a5 := Tryz.isAgg5, z5 := Tryz.sizeOf5, v5 := Tryz.zeroValue5,
 infoByte := by kernel_rfl, cellsByte := by kernel_rfl, sizeByte := by kernel_rfl, neB5 := by decide }
def joinS (xs : List (List UInt8)) (sep : List UInt8) : List UInt8 := Lib.join xs sep
theorem idE (xs : List (List UInt8)) : (xs.map fun s => (⟨s.toArray⟩ : ByteArray)).map (fun x => x.data.toList) = xs := by
 rw [List.map_map]
 rw [show ((fun x : ByteArray => x.data.toList) ∘ fun s : List UInt8 => (⟨s.toArray⟩ : ByteArray)) = id from funext fun s => by simp, List.map_id]
theorem join_c (xs : List (List UInt8)) (c : Bool) (sep : List UInt8) (hx : xs.length ≤ 1048576) (hl : (joinS xs sep).length ≤ 140737488355328) :
  ACalls Tryz.prog 126 [.p (.list c (xs.map strE)), .p (.str sep)] [] fun y H' => y = .p (.str (joinS xs sep)) ∧ H' = [] := by
 refine ⟨isF126, fun F ι w vs hr hv => ?_⟩
 obtain ⟨h1, h2⟩ := hv
 have e0 := h2 0 _ rfl
 have e1 := rv_str (h2 1 _ rfl)
 have hvs : vs = #[vs.getD 0 undef, .string ⟨sep.toArray⟩] := by
  apply Array.ext
  ·simpa using h1
  ·intro i h3 h4
   have : i = 0 ∨ i = 1 := by simp at h4; omega
   rcases this with rfl | rfl
   ·simp [Array.getD, h3]
   ·have : vs.getD 1 undef = vs[1] := by simp [Array.getD, h3]
    rw [← this, e1]; rfl
 have hι : ι = [] := List.eq_nil_of_length_eq_zero hr.len
 subst hι
 rw [hvs]
 generalize vs.getD 0 undef = v at e0
 clear hvs h1 h2 e1 vs
 have fin : ∀ {w' e}, e = Ending.returned (.string ⟨(joinS xs sep).toArray⟩) ∧ Below w.heap.size w w' → ∃ x H' ι' v, e = .returned v ∧ (x = V.p (.str (joinS xs sep)) ∧ H' = []) ∧ Go.AM.Good F [] [] w H' ι' w' ∧ RV F H' ι' w' x v := by
  rintro w' e ⟨rfl, hb⟩
  exact ⟨_, _, [], _, rfl, ⟨rfl, rfl⟩, good_below hr.fin hb, .p _ _ (.str _)⟩
 have none : ∀ a cap, xs = [] → Calls Tryz.prog 126 #[.slice a 0 cap, .string ⟨sep.toArray⟩] w fun e w' => ∃ x H' ι' v, e = .returned v ∧ (x = V.p (.str (joinS xs sep)) ∧ H' = []) ∧ Go.AM.Good F [] [] w H' ι' w' ∧ RV F H' ι' w' x v := fun a cap he => by
  refine (Any.strings_Join_none layJoin extJoin a cap ⟨sep.toArray⟩ w).mono ?_
  rintro e w' ⟨he2, rfl⟩
  refine fin ⟨?_, Below.refl _ _⟩
  rw [he2, he]; rfl
 cases e0 with | p _ _ h =>
 generalize hm : xs.map strE = ys at h
 cases h with
 | nils => exact none _ _ (by simpa using hm)
 | emp => exact none _ _ (by simpa using hm)
 | list cl xs2 b off cap S u hX hb hc hm2 hcl hS hu hr2 =>
  subst hm
  rw [List.length_map]
  have key := Any.strings_Join layJoin extJoin b off cap (xs.map fun s => ⟨s.toArray⟩) ⟨sep.toArray⟩ w ?_ hb (by rw [List.length_map]; omega) (by simpa using hc) ?_
  ·rw [List.length_map] at key
   refine key.mono fun e w' h => fin ?_
   rw [idE] at h
   simpa [joinS] using h
  ·intro j x hj
   rw [List.getElem?_map, Option.map_eq_some_iff] at hj
   obtain ⟨t, ht, rfl⟩ := hj
   have hj2 : (xs.map strE)[j]? = some (strE t) := by rw [List.getElem?_map, ht]; rfl
   have hc0 : (strE t).cells[0]? = some (.str t) := rfl
   have hS1 : S = 1 := by rw [← hS j _ hj2]; rfl
   have g1 := hu j _ 0 _ hj2 hc0
   have g2 := (hr2 j _ 0 _ hj2 hc0).str_inv
   rw [g2, hS1, Nat.mul_one, Nat.add_zero] at g1
   exact g1
  ·rw [idE]
   simpa [joinS] using hl
end Go.Proofs.YtngonbhfbpnkcaaGreatDoor.K
set_option linter.unusedVariables false
set_option linter.unusedSimpArgs false
namespace Go.Proofs.YtngonbhfbpnkcaaGreatDoor.K
open Go Go.AM Go.Proofs Go.Shelf Go.RowKit
set_option maxRecDepth 100000
set_option maxHeartbeats 8000000
theorem layWS : Lays.n166 Tryz.prog layJoin_ren := { layJoin with }
theorem laySt2 : Lays.n169 Tryz.prog layJoin_ren := { layJoin with }
theorem wstr_calls {P : Program} {ρ : Ren} (L : Lays.n166 P ρ) (X : Builder.Extra P ρ) {n : Nat} {p v : Value} {b : Nat} {xs : List Value} {w : World} (s : List UInt8) (hs : s ≠ []) (hbk : w.heap[b]? = some (.cells #[p, v] (ρ.t 72) (0, 0))) (hp : p = .pointer none ∨ p = .pointer (some ⟨b, 0, none⟩)) (hne : v.ownBlock ≠ some b)
  (hown : w.ownsRow 0 (ρ.t 5) 1 v n xs) (hb : n + s.length ≤ 140737488355328) :
  Calls P (ρ.f 166) #[.pointer (some ⟨b, 0, none⟩), .string ⟨s.toArray⟩] w fun e w' => e = .returned (.tuple #[.int .i64 s.length, .nilIface]) ∧
   ∃ v' w1 w2, Turned w w1 b #[.pointer (some ⟨b, 0, none⟩), v] (ρ.t 72) ∧ Grew w1 w2 v.ownBlock v'.ownBlock ∧ w2.ownsRow 0 (ρ.t 5) 1 v' (n + s.length) (xs ++ s.map fun x => .int .u8 x.toNat) ∧ w' = w2.setCell ⟨b, 1, none⟩ v' := by
 obtain ⟨i0, hi, hz0, hz1, hz2⟩ := info_parts X.infoByte
 have mixed := L.mixed
 have t72 := L.t72; have a72 := L.a72; have z72 := L.z72; have v72 := L.v72; have u72 := run_underlying L.t72
 have t70 := L.t70; have a70 := L.a70; have z70 := L.z70; have v70 := L.v70; have u70 := run_underlying L.t70
 have t37 := L.t37; have a37 := L.a37; have z37 := L.z37; have v37 := L.v37; have u37 := run_underlying L.t37
 have t3 := L.t3; have a3 := L.a3; have z3 := L.z3; have v3 := L.v3; have u3 := run_underlying L.t3
 have t9 := L.t9; have a9 := L.a9; have z9 := L.z9; have v9 := L.v9; have u9 := run_underlying L.t9
 have t4 := L.t4; have a4 := L.a4; have z4 := L.z4; have v4 := L.v4; have u4 := run_underlying L.t4
 have t164 := L.t164; have a164 := L.a164; have z164 := L.z164; have v164 := L.v164; have u164 := run_underlying L.t164
 have hcc : Calls P (ρ.f 240) #[.pointer (some ⟨b, 0, none⟩)] w fun e w1 => e = .returned (.tuple #[]) ∧ Turned w w1 b #[.pointer (some ⟨b, 0, none⟩), v] (ρ.t 72) := by
  rcases hp with rfl | rfl
  ·refine (Any.Builder_copyCheck_fresh { L with } X.toX72 b w (by rw [Lib.cell_of_heap hbk]; rfl) (by show w.shape? b = _; simp [World.shape?, hbk]) (Lib.frozen_of_heap hbk 0)).mono ?_
   rintro e w' ⟨rfl, rfl⟩
   exact ⟨rfl, rfl, rfl, rfl, Nat.le_refl _, by simp [World.setCell], by simp [World.setCell, Array.getElem?_modify, hbk], fun k hk => Below.heap_setCell _ _ _ _ (fun e => hk (by simpa using e))⟩
  ·refine (Any.Builder_copyCheck_used { L with } X.toX72 b w (by rw [Lib.cell_of_heap hbk]; rfl)).mono ?_
   rintro e w' ⟨rfl, rfl⟩
   exact ⟨rfl, rfl, rfl, rfl, Nat.le_refl _, rfl, hbk, fun _ _ => rfl⟩
 have e240 : ∀ args w, (callFunc (ρ.f 240) args).run P w = .ok (.enter (ρ.f 240) args) w := enters_of L.f240 (by kernel_rfl) rfl
 go_enter L.f166, Body.n166_ntmps _
 go_wp2_with (go_at_fn (ρ.f 240); refine hcc.mono ?_)
 rintro e w1 ⟨rfl, hT⟩
 have c0 : w1.cell? ⟨b, 0, none⟩ = some (.pointer (some ⟨b, 0, none⟩)) := by rw [Lib.cell_of_heap hT.at']; rfl
 have c1 : w1.cell? ⟨b, 1, none⟩ = some v := by rw [Lib.cell_of_heap hT.at']; rfl
 have hown1 : w1.ownsRow 0 (ρ.t 5) 1 v n xs := by
  rcases hown with ⟨o1, o2 | ⟨g, cap, cur, o2, o3, o4, o5⟩⟩
  ·exact ⟨o1, .inl o2⟩
  ·exact ⟨o1, .inr ⟨g, cap, cur, o2, o3, by rw [hT.other g (fun e => hne (by rw [o2, e]; rfl))]; exact o4, o5⟩⟩
 go_wp2_with (at_builtin; refine wpList_bapp rfl _ _ _ _ rfl (ρ.t 5) i0 L.t37 L.t9 hi hz0 hz1 hz2 v n xs rfl hown1 s hs rfl hb ?_)
 intro v' w2 hown' hG
 have hlt : b < w1.heap.size := (Array.getElem?_eq_some_iff.1 hT.at').1
 have hb2 : w2.heap[b]? = some (.cells #[.pointer (some ⟨b, 0, none⟩), v] (ρ.t 72) (0, 0)) := by
  rw [hG.old b hlt (fun e => hne e.symm)]
  exact hT.at'
 have d0 : w2.cell? ⟨b, 0, none⟩ = some (.pointer (some ⟨b, 0, none⟩)) := by rw [Lib.cell_of_heap hb2]; rfl
 have d1 : w2.cell? ⟨b, 1, none⟩ = some v := by rw [Lib.cell_of_heap hb2]; rfl
 have f1 : w2.frozen? ⟨b, 1, none⟩ = false := Lib.frozen_of_heap hb2 1
 obtain ⟨ao, n', cap, rfl⟩ : ∃ ao n' cap, v' = .slice ao n' cap := by
  rcases hown'.2 with ⟨hv, _⟩ | ⟨g, cap, cur, hv, _⟩
  ·exact ⟨_, _, _, hv⟩
  ·exact ⟨_, _, _, hv⟩
 go_wp2
 go_ret2
 exact ⟨by simp, _, w1, w2, hT, hG, hown', rfl⟩
theorem wstr_c {H : List AM.Obj} {o r : Nat} {bs : List UInt8} (hH : H[o]? = some (.bld 119 5 r bs)) (s : List UInt8) (hs : s ≠ []) (hl : bs.length + s.length ≤ 140737488355328) :
  ACalls Tryz.prog 56 [.bp o, .p (.str s)] H fun x H' => x = .tup [.p (.int .i64 s.length), .p .nili] ∧ H' = H.set o (.bld 119 5 r (bs ++ s)) := by
 refine ⟨isF56, fun F ι w vs hr hv => ?_⟩
 obtain ⟨h1, h2⟩ := hv
 have e0 := h2 0 _ rfl
 have e1 := rv_str (h2 1 _ rfl)
 obtain ⟨hor, hrd, b, go, q1, q2, p, v, w1, w2, w3, w4⟩ := hr.bldr o _ _ r bs hH
 have e0' : vs.getD 0 undef = .pointer (some ⟨b, 0, none⟩) := by
  generalize vs.getD 0 undef = x at e0
  cases e0 with
  | bp _ b2 T2 E2 r2 bs2 h hH2 => rw [q1] at h; simp at h; rw [h]
  | bpD _ _ h => rw [hH] at h; cases h
 have hvs : vs = #[.pointer (some ⟨b, 0, none⟩), .string ⟨s.toArray⟩] := by
  apply Array.ext
  ·simpa using h1
  ·intro i h3 h4
   have : i = 0 ∨ i = 1 := by simp at h4; omega
   rcases this with rfl | rfl
   ·have : vs.getD 0 undef = vs[0] := by simp [Array.getD, h3]
    rw [← this, e0']; rfl
   ·have : vs.getD 1 undef = vs[1] := by simp [Array.getD, h3]
    rw [← this, e1]; rfl
 subst w3
 have hne : v.ownBlock ≠ some b := fun e => by have := hr.inj o r b q1 (by rw [q2, e]); omega
 rw [hvs]
 refine (wstr_calls layWS extJoin s hs w1 w2 hne w4 hl).mono ?_
 rintro e w' ⟨rfl, v', wa, wb, hT, hG, ho, rfl⟩
 refine ⟨_, _, _, _, rfl, ⟨rfl, rfl⟩, good_wstr (bs' := bs ++ s) hr hH q1 q2 w1 hT hG (by rw [List.length_append, List.map_append]; exact ho) hne, .tup _ _ rfl fun j c hj => ?_⟩
 match j, hj with
 | 0, hj => simp at hj; subst hj; exact .p _ _ (.int _ _)
 | 1, hj => simp at hj; subst hj; exact .p _ _ .nili
 | j + 2, hj => simp at hj
theorem bstr_calls {P : Program} {ρ : Ren} (L : Lays.n169 P ρ) (X : Builder.Extra P ρ) {p v : Value} {b : Nat} {l : List UInt8} {w : World} (h0 : l ≠ []) (hbk : w.heap[b]? = some (.cells #[p, v] (ρ.t 72) (0, 0))) (hown : w.ownsRow 0 (ρ.t 5) 1 v l.length (l.map fun x => .int .u8 x.toNat)) :
  Calls P (ρ.f 169) #[.pointer (some ⟨b, 0, none⟩)] w fun e w' => e = .returned (.string ⟨l.toArray⟩) ∧ ∃ g n, v.ownBlock = some g ∧ w' = w.drew.freeze ⟨g, 0, none⟩ n := by
 have hl0 : l.length ≠ 0 := by simpa using h0
 obtain ⟨g, cap, cur, rfl, hg, hnc, hcm, hcs, htake⟩ : ∃ g cap cur, v = .slice (some ⟨g, 0, none⟩) l.length cap ∧ w.heap[g]? = some (.cells cur (ρ.t 5) (0, 0)) ∧ l.length ≤ cap ∧ cap ≤ maxLen ∧ cur.size = cap * 1 ∧ cur.toList.take (l.length * 1) = l.map fun x => Value.int .u8 x.toNat := by
  rcases hown.2 with ⟨_, hz⟩ | ⟨g, cap, cur, hv, _, r⟩
  ·exact absurd hz hl0
  ·exact ⟨g, cap, cur, hv, r⟩
 have c1 : w.drew.cell? ⟨b, 1, none⟩ = some (.slice (some ⟨g, 0, none⟩) l.length cap) := by
  have : w.drew.heap[b]? = some (.cells #[p, .slice (some ⟨g, 0, none⟩) l.length cap] (ρ.t 72) (0, 0)) := hbk
  rw [Lib.cell_of_heap this]; rfl
 have hSD : (Builtin.unsafeSliceData_ #[(ρ.t 37)] (ρ.t 127) #[.slice (some ⟨g, 0, none⟩) l.length cap]).run P w.drew = .ok (.pointer (some ⟨g, 0, none⟩)) w.drew :=
  Lib.run_unsafeSliceData_row _ _ _ _ _ _ (by omega)
 have hUS : (Builtin.unsafeString_ #[(ρ.t 127), (ρ.t 3)] (ρ.t 9) #[.pointer (some ⟨g, 0, none⟩), .int .i64 l.length]).run P w.drew = .ok (.string ⟨l.toArray⟩) (w.drew.freeze ⟨g, 0, none⟩ l.length) := by
  refine Lib.run_unsafeString_row w.drew (ρ.t 127) (ρ.t 3) (ρ.t 9) (ρ.t 5) L.t127 X.cellsByte g cur.size (by have hg' : w.drew.heap[g]? = some (.cells cur (ρ.t 5) (0, 0)) := hg; simp [World.shape?, hg']) l h0 (by omega) (by unfold maxLen at hcm; omega) ?_
  intro j x hx
  have := hown.cells (g := g) rfl j (.int .u8 x.toNat) (by simp [hx])
  exact this
 have mixed := L.mixed
 have t72 := L.t72; have a72 := L.a72; have z72 := L.z72; have v72 := L.v72; have u72 := run_underlying L.t72
 have t70 := L.t70; have a70 := L.a70; have z70 := L.z70; have v70 := L.v70; have u70 := run_underlying L.t70
 have t37 := L.t37; have a37 := L.a37; have z37 := L.z37; have v37 := L.v37; have u37 := run_underlying L.t37
 have t127 := L.t127; have a127 := L.a127; have z127 := L.z127; have v127 := L.v127; have u127 := run_underlying L.t127
 have t3 := L.t3; have a3 := L.a3; have z3 := L.z3; have v3 := L.v3; have u3 := run_underlying L.t3
 have t9 := L.t9; have a9 := L.a9; have z9 := L.z9; have v9 := L.v9; have u9 := run_underlying L.t9
 have t5 := X.t5; have a5 := X.a5; have z5 := X.z5; have v5 := X.v5; have u5 := run_underlying X.t5
 go_enter L.f169, Body.n169_ntmps _
 go_wp2
 go_region_o
 all_goals (go_wp2; go_ret; exact ⟨rfl, g, _, rfl, rfl⟩)
theorem bstr_c {H : List AM.Obj} {o r : Nat} {bs : List UInt8} (hH : H[o]? = some (.bld 119 5 r bs)) (hs : bs ≠ []) :
  ACalls Tryz.prog 58 [.bp o] H fun x H' => x = .p (.str bs) ∧ H' = H.set o .dead := by
 refine ⟨isF58, fun F ι w vs hr hv => ?_⟩
 obtain ⟨h1, h2⟩ := hv
 have e0 := h2 0 _ rfl
 obtain ⟨hor, hrd, b, go, q1, q2, p, v, w1, w2, w3, w4⟩ := hr.bldr o _ _ r bs hH
 have e0' : vs.getD 0 undef = .pointer (some ⟨b, 0, none⟩) := by
  generalize vs.getD 0 undef = x at e0
  cases e0 with
  | bp _ b2 T2 E2 r2 bs2 h hH2 => rw [q1] at h; simp at h; rw [h]
  | bpD _ _ h => rw [hH] at h; cases h
 have hvs : vs = #[.pointer (some ⟨b, 0, none⟩)] := by
  apply Array.ext
  ·simpa using h1
  ·intro i h3 h4
   have : i = 0 := by simp at h4; omega
   subst this
   have : vs.getD 0 undef = vs[0] := by simp [Array.getD, h3]
   rw [← this, e0']; rfl
 rw [hvs]
 refine (bstr_calls laySt2 extJoin hs w1 w4).mono ?_
 rintro e w' ⟨rfl, g, n, hg, rfl⟩
 refine ⟨_, _, _, _, rfl, ⟨rfl, rfl⟩, good_endBld hr hH q1 q2 ?_ ?_ ?_ ?_ ?_, .p _ _ (.str _)⟩
 ·unfold World.freeze; split <;> rfl
 ·unfold World.freeze; split <;> rfl
 ·unfold World.freeze; split <;> rfl
 ·unfold World.freeze
  split
  ·exact Nat.le_refl _
  ·show w.heap.size ≤ (Array.modify w.heap _ _).size
   rw [Array.size_modify]; exact Nat.le_refl _
 ·intro k hk hne
  have : k ≠ g := fun e => hne (by rw [← w3, hg, e])
  unfold World.freeze
  split
  ·rfl
  ·simp only [Array.getElem?_modify]
   rw [if_neg (fun e => this e.symm)]
   rfl
end Go.Proofs.YtngonbhfbpnkcaaGreatDoor.K
set_option linter.unusedVariables false
set_option linter.unusedSimpArgs false
namespace Go.Proofs.YtngonbhfbpnkcaaGreatDoor.K
open Go Go.AM Go.Proofs
set_option maxRecDepth 60000
set_option maxHeartbeats 8000000
theorem joinS_cons (x : List UInt8) (r : List (List UInt8)) (sep : List UInt8) : joinS (x :: r) sep = x ++ Lib.joinTail sep r := Lib.join_cons _ _ _
theorem joinTail_len {sep : List UInt8} {B : Nat} : ∀ (r : List (List UInt8)), (∀ s ∈ r, s.length ≤ B) → (Lib.joinTail sep r).length ≤ r.length * (B + sep.length)
 | [], _ => by simp [Lib.joinTail]
 | x :: r, h => by
  have ih := joinTail_len (sep := sep) r fun s hs => h s (by simp [hs])
  have h1 := h x (by simp)
  simp only [Lib.joinTail, List.map_cons, List.flatten_cons, List.length_append, List.length_cons, Nat.add_mul, Nat.one_mul] at *
  omega
theorem joinS_len {sep : List UInt8} {B : Nat} {xs : List (List UInt8)} (h : ∀ s ∈ xs, s.length ≤ B) : (joinS xs sep).length ≤ xs.length * (B + sep.length) := by
 cases xs with
 | nil => simp [joinS, Lib.join_nil]
 | cons x r =>
  have ih := joinTail_len (sep := sep) r fun s hs => h s (by simp [hs])
  have h1 := h x (by simp)
  rw [joinS_cons]
  simp only [List.length_append, List.length_cons, Nat.add_mul, Nat.one_mul] at *
  omega
def decS (n : Int) : List UInt8 := dec n.toNat
def okD (n : Int) : Prop := 0 ≤ n ∧ n < 100
theorem decS_len {n : Int} (h : okD n) : (decS n).length ≤ 20 := by
 obtain ⟨h0, h1⟩ := h
 by_cases h2 : n < 10
 ·rw [decS, dec_one (by omega)]; simp
 ·rw [decS, dec_two (by omega) (by omega)]; simp
theorem decimal_c (n : Int) (h : okD n) : ACalls Tryz.prog 64 [.p (.int .i64 n)] [] fun x H' => x = .p (.str (decS n)) ∧ H' = [] := by
 obtain ⟨h0, h1⟩ := h
 refine acalls_pure (fn := Tryz.f64) Tryz.func64 rfl isF64 ?_
 simp (disch := omega) only [Tryz.f64, go_sem, seval]
 have e : n = (n.toNat : Int) := by omega
 have c := itoa_c n.toNat (by omega)
 rw [← e] at c
 refine (c).use ?_
 simp (disch := omega) only [go_sem, seval]
 rfl
theorem tJoin_c (xs : List (List UInt8)) (c : Bool) (hx : xs.length ≤ 1048576) (hl : (joinS xs [32]).length ≤ 140737488355328) :
  ACalls Tryz.prog 66 [.p (.list c (xs.map strE))] [] fun y H' => y = .p (.str (joinS xs [32])) ∧ H' = [] := by
 refine acalls_pure (fn := Tryz.f66) Tryz.func66 rfl isF66 ?_
 simp (disch := omega) only [Tryz.f66, go_sem, seval]
 refine (join_c xs c [32] hx hl).use ?_
 simp (disch := omega) only [go_sem, seval]
def rtsS (l : List Bool) : List UInt8 := if l = [] then [46] else l.map fun b => if b = true then 121 else 110
def okR (l : List Bool) : Prop := l = []
theorem rtsS_len {l : List Bool} (h : okR l) : (rtsS l).length ≤ 64 := by
 have : l = [] := h
 subst this; simp [rtsS]
theorem rests_c (l : List Bool) (c : Bool) (h : okR l) : ACalls Tryz.prog 65 [.p (.list c (l.map eB))] [] fun y H' => y = .p (.str (rtsS l)) ∧ H' = [] := by
 have : l = [] := h
 subst this
 refine acalls_pure (fn := Tryz.f65) Tryz.func65 rfl isF65 ?_
 simp (disch := omega) only [Tryz.f65, List.map_nil, go_sem, seval]
 rfl
def visS (v : Vis) : List UInt8 := (if v.drp = true then [45] else [43]) ++ decS v.order
def rteWd (r : Rte) : List (List UInt8) := [[114, 111, 117, 116, 101], decS r.typ, decS r.start, rtsS r.rests]
def lineS (r : Rte) : List UInt8 := joinS (rteWd r ++ r.visits.map visS) [32] ++ [10]
def unsWd : List UInt8 := [117, 110, 115, 101, 114, 118, 101, 100]
def endS (p : Pln) : List UInt8 := joinS ([unsWd] ++ p.unserved.map decS) [32] ++ [10]
def prS (p : Pln) : List UInt8 := (p.routes.map lineS).flatten ++ endS p
structure PrOk (p : Pln) : Prop where
 routes : p.routes.length ≤ 64
 unserved : p.unserved.length ≤ 64
 rte : ∀ r ∈ p.routes, r.visits.length ≤ 64 ∧ okD r.typ ∧ okD r.start ∧ okR r.rests ∧ ∀ v ∈ r.visits, okD v.order
 uns : ∀ u ∈ p.unserved, okD u
theorem lineJ_len {r : Rte} (h : r.visits.length ≤ 64 ∧ okD r.typ ∧ okD r.start ∧ okR r.rests ∧ ∀ v ∈ r.visits, okD v.order) : (joinS (rteWd r ++ r.visits.map visS) [32]).length ≤ 4420 := by
 obtain ⟨h1, h2, h3, h4, h5⟩ := h
 have := joinS_len (sep := [32]) (B := 64) (xs := rteWd r ++ r.visits.map visS) fun s hs => by
  rcases List.mem_append.1 hs with hs | hs
  ·simp only [rteWd, List.mem_cons, List.not_mem_nil, or_false] at hs
   rcases hs with rfl | rfl | rfl | rfl
   ·simp
   ·have := decS_len h2; omega
   ·have := decS_len h3; omega
   ·exact rtsS_len h4
  ·obtain ⟨v, hv, rfl⟩ := List.mem_map.1 hs
   have := decS_len (h5 v hv)
   rw [visS, List.length_append]
   split <;> simp <;> omega
 simp only [List.length_append, List.length_map, rteWd, List.length_cons, List.length_nil] at *
 omega
theorem lines_len {p : Pln} (h : PrOk p) (k : Nat) : (((p.routes.take k).map lineS).flatten).length ≤ k * 4421 := by
 induction k with
 | zero => simp
 | succ k ih =>
  by_cases hk : k < p.routes.length
  ·rw [List.take_succ_eq_append_getElem hk, List.map_append, List.flatten_append, List.length_append]
   have := lineJ_len (h.rte _ (List.getElem_mem hk))
   simp only [List.map_cons, List.map_nil, List.flatten_cons, List.flatten_nil, List.append_nil, lineS, List.length_append, List.length_cons, List.length_nil] at *
   omega
  ·rw [List.take_of_length_le (by omega)] at ih ⊢
   omega
def linW (r : Rte) (q : Nat) : List (List UInt8) := rteWd r ++ (r.visits.take q).map visS
theorem linW_succ {r : Rte} {q : Nat} (h : q < r.visits.length) : linW r (q + 1) = linW r q ++ [visS (nth r.visits q)] := by
 rw [linW, linW, List.take_succ_eq_append_getElem h, nth_get h, List.map_append, List.append_assoc]; rfl
theorem linW_len {r : Rte} {q : Nat} (h : q ≤ r.visits.length) : (linW r q).length = 4 + q := by simp [linW, rteWd]; omega
def unsL (p : Pln) (q : Nat) : List (List UInt8) := [unsWd] ++ (p.unserved.take q).map decS
theorem unsL_succ {p : Pln} {q : Nat} (h : q < p.unserved.length) : unsL p (q + 1) = unsL p q ++ [decS (nth p.unserved q)] := by
 rw [unsL, unsL, List.take_succ_eq_append_getElem h, nth_get h, List.map_append, List.append_assoc]; rfl
theorem unsL_len {p : Pln} {q : Nat} (h : q ≤ p.unserved.length) : (unsL p q).length = 1 + q := by simp [unsL]; omega
def rteC (r : Rte) : AM.Obj := .cells [.p (.int .i64 r.typ), .p (.int .i64 r.start), .p (.list r.rests_c (r.rests.map eB)), .p (.list r.visits_c (r.visits.map eVis))]
theorem print_c (p : Pln) (h : PrOk p) : ACalls Tryz.prog 30 [.p (ePln p)] [] fun y H' => y = .p (.str (prS p)) ∧ H' = [] := by
 obtain ⟨hr, hu, hb, hv⟩ := id h
 have hll := lines_len h
 refine acalls_pureC [1] (fn := Tryz.f30) Tryz.func30 rfl isF30 ?_
 simp (disch := omega) only [Tryz.f30, go_sem, seval]
 refine awp_seq (awp_opS 0 rfl rfl ?_)
 simp (disch := omega) only [go_sem, seval]
 refine ⟨_, _, ops_bld 119 5 rfl (by kernel_rfl), ?_⟩
 simp (disch := omega) only [go_sem, seval]
 refine awp_sound [] _ _ _ _ ?_
 simp (disch := omega) only [go_sem, seval]
 refine awp_for [1, 3, 14, 15] (fun k : Nat => [(16, .p (.int .i64 k))]) (fun k => [plnO p, .bld 119 5 2 (((p.routes.take k).map lineS).flatten), .dead]) (fun k => k ≤ p.routes.length) (fun k => p.routes.length - k) 0 (by simp) (Weak.mk ?_) ?_
 ·simp (disch := omega) only [plnO, List.take_zero, List.map_nil, List.flatten_nil, go_sem, seval]
 ·intro k hk
  simp (disch := omega) only [plnO, go_sem, seval]
  refine acond_b (fun h1 => ?_) (fun h1 => ?_) <;> (try simp only [decide_eq_true_eq, decide_eq_false_iff_not] at h1) <;> simp (disch := omega) only [Sh.out h1, go_sem, seval]
  ·have hk2 : k < p.routes.length := by omega
   have hm := nth_in hk2
   obtain ⟨b1, b2, b3, b4, b5⟩ := hb _ hm
   refine awp_drawnS 9 mixed (by kernel_rfl) (by kernel_rfl) ?_
   simp (disch := omega) only [go_sem, seval]
   refine exq_call (decimal_c (nth p.routes k).typ b2) ?_
   simp (disch := omega) only [go_sem, seval]
   refine exq_call (decimal_c (nth p.routes k).start b3) ?_
   simp (disch := omega) only [go_sem, seval]
   refine exq_call (rests_c (nth p.routes k).rests _ b4) ?_
   simp (disch := omega) only [go_sem, seval]
   refine awp_for [1, 3, 14, 15, 16, 31, 32] (fun q : Nat => [(33, .p (.int .i64 q)), (6, .sl 4 0 (linW (nth p.routes k) q).length (linW (nth p.routes k) q).length)]) (fun q => [plnO p, .bld 119 5 2 (((p.routes.take k).map lineS).flatten), .dead, rteC (nth p.routes k), .elems 1 ((linW (nth p.routes k) q).map strE)]) (fun q => q ≤ (nth p.routes k).visits.length) (fun q => (nth p.routes k).visits.length - q) 0 (by simp) (Weak.mk ?_) ?_
   ·simp (disch := omega) only [plnO, rteC, go_sem, seval]
    simp [linW, rteWd, strE_eq]
   ·intro q hq
    simp (disch := omega) only [plnO, rteC, go_sem, seval]
    have hwl := linW_len hq
    refine acond_b (fun h2 => ?_) (fun h2 => ?_) <;> (try simp only [decide_eq_true_eq, decide_eq_false_iff_not] at h2) <;> simp (disch := omega) only [Sh.out h2, go_sem, seval]
    ·have hq2 : q < (nth p.routes k).visits.length := by omega
     have hmv := nth_in hq2
     have hdo := b5 _ hmv
     have hsn := linW_succ hq2
     have hvd : visS (nth (nth p.routes k).visits q) = (if (nth (nth p.routes k).visits q).drp = true then [45] else [43]) ++ decS (nth (nth p.routes k).visits q).order := rfl
     generalize (nth (nth p.routes k).visits q) = v at *
     have hdl := decS_len hdo
     generalize hd : v.drp = d at *
     cases d
     all_goals
      simp (disch := omega) only [go_sem, seval]
      refine (decimal_c v.order hdo).use ?_
      simp (disch := omega) only [go_sem, seval]
      rw [sbin_add (by simp; omega)]
      simp (disch := omega) only [go_sem, seval]
      refine ⟨q + 1, by omega, by omega, Weak.mk ?_⟩
      simp (disch := omega) only [plnO, rteC, hsn, hvd, List.map_append, List.map_cons, List.map_nil, List.length_append, List.length_cons, List.length_nil, strE_eq, go_sem, seval]
    ·have hql : q = (nth p.routes k).visits.length := by omega
     subst hql
     have hfl := lineJ_len (hb _ hm)
     have hls : lineS (nth p.routes k) = joinS (linW (nth p.routes k) (nth p.routes k).visits.length) [32] ++ [10] := by rw [linW, List.take_length]; rfl
     have hln : (joinS (linW (nth p.routes k) (nth p.routes k).visits.length) [32]).length ≤ 4420 := by rw [linW, List.take_length]; exact hfl
     have hkl := hll k
     have htk : (p.routes.take (k + 1)).map lineS = (p.routes.take k).map lineS ++ [lineS (nth p.routes k)] := by rw [List.take_succ_eq_append_getElem hk2, nth_get hk2, List.map_append]; rfl
     refine ACalls.view (tJoin_c (linW (nth p.routes k) (nth p.routes k).visits.length) false (by omega) (by omega)) (by simp [vws, vw, oat, take_map_len] <;> rfl) (by rfl) ?_
     simp (disch := omega) only [go_sem, seval]
     rw [sbin_add (by simp; omega)]
     simp (disch := omega) only [go_sem, seval]
     refine (wstr_c (o := 1) (r := 2) rfl (joinS (linW (nth p.routes k) (nth p.routes k).visits.length) [32] ++ [10]) (by simp) (by simp only [List.length_append, List.length_cons, List.length_nil]; omega)).mono ?_
     rintro x H' ⟨rfl, rfl⟩
     simp (disch := omega) only [go_sem, seval]
     refine ⟨k + 1, by omega, by omega, Weak.mk ?_⟩
     simp (disch := omega) only [plnO, htk, hls, List.flatten_append, List.flatten_cons, List.flatten_nil, List.append_nil, List.set_cons_succ, List.set_cons_zero, go_sem, seval]
  ·have hkl : k = p.routes.length := by omega
   subst hkl
   rw [List.take_length] at *
   have hll := hll p.routes.length
   rw [List.take_length] at hll
   refine awp_for [3, 55, 56] (fun q : Nat => [(57, .p (.int .i64 q)), (10, .sl 3 0 (unsL p q).length (unsL p q).length)]) (fun q => [plnO p, .bld 119 5 2 ((p.routes.map lineS).flatten), .dead, .elems 1 ((unsL p q).map strE)]) (fun q => q ≤ p.unserved.length) (fun q => p.unserved.length - q) 0 (by simp) (Weak.mk ?_) ?_
   ·simp (disch := omega) only [plnO, go_sem, seval]
    simp [unsL, unsWd, strE_eq]
   ·intro q hq
    simp (disch := omega) only [plnO, go_sem, seval]
    have hwl := unsL_len hq
    refine acond_b (fun h2 => ?_) (fun h2 => ?_) <;> (try simp only [decide_eq_true_eq, decide_eq_false_iff_not] at h2) <;> simp (disch := omega) only [Sh.out h2, go_sem, seval]
    ·have hq2 : q < p.unserved.length := by omega
     have hdo := hv _ (nth_in hq2)
     have hsn := unsL_succ hq2
     generalize (nth p.unserved q) = v at *
     refine (decimal_c v hdo).use ?_
     simp (disch := omega) only [go_sem, seval]
     refine ⟨q + 1, by omega, by omega, Weak.mk ?_⟩
     simp (disch := omega) only [plnO, hsn, List.map_append, List.map_cons, List.map_nil, List.length_append, List.length_cons, List.length_nil, strE_eq, go_sem, seval]
    ·have hql : q = p.unserved.length := by omega
     subst hql
     have hes : endS p = joinS (unsL p p.unserved.length) [32] ++ [10] := by rw [unsL, List.take_length]; rfl
     have hln : (joinS (unsL p p.unserved.length) [32]).length ≤ 65 * 65 := by
      have := joinS_len (sep := [32]) (B := 64) (xs := unsL p p.unserved.length) fun s hs => by
       rcases List.mem_append.1 hs with hs | hs
       ·simp only [unsWd, List.mem_cons, List.not_mem_nil, or_false] at hs
        subst hs; simp
       ·rw [List.take_length] at hs
        obtain ⟨v, hv2, rfl⟩ := List.mem_map.1 hs
        have := decS_len (hv v hv2); omega
      rw [hwl] at this
      simp only [List.length_cons, List.length_nil] at this
      omega
     refine ACalls.view (tJoin_c (unsL p p.unserved.length) false (by omega) (by omega)) (by simp [vws, vw, oat, take_map_len] <;> rfl) (by rfl) ?_
     simp (disch := omega) only [go_sem, seval]
     rw [sbin_add (by simp; omega)]
     simp (disch := omega) only [go_sem, seval]
     refine (wstr_c (o := 1) (r := 2) rfl (joinS (unsL p p.unserved.length) [32] ++ [10]) (by simp) (by simp only [List.length_append, List.length_cons, List.length_nil]; omega)).mono ?_
     rintro x H' ⟨rfl, rfl⟩
     simp (disch := omega) only [List.set_cons_succ, List.set_cons_zero, go_sem, seval]
     refine (bstr_c (o := 1) (r := 2) rfl (by simp)).mono ?_
     rintro x H' ⟨rfl, rfl⟩
     simp (disch := omega) only [go_sem, seval]
     rw [prS, hes]
end Go.Proofs.YtngonbhfbpnkcaaGreatDoor.K
set_option linter.unusedVariables false
set_option linter.unusedSimpArgs false
namespace Go.Proofs.YtngonbhfbpnkcaaGreatDoor.K
open Go Go.AM Go.Proofs
set_option maxRecDepth 8000
set_option maxHeartbeats 8000000
def digB (b : UInt8) : Bool := decide (48 ≤ (b.toNat : Int)) && decide ((b.toNat : Int) ≤ 57)
def numF (s : List UInt8) : Int × Int :=
 if trimM s = [] ∨ ((nth (trimM s) 0).toNat = 48 ∧ s ≠ [48]) then (0, 3)
 else if (trimM s).all digB = false then (0, 3)
 else ((Lib.atoi s).getD 0, 0)
theorem decFrom_all : ∀ (l : List UInt8) (a : Nat), l.all digB = true → ∃ n, Lib.decFrom a l = some n
 | [], a, _ => ⟨a, rfl⟩
 | b :: l, a, h => by
  simp only [List.all_cons, Bool.and_eq_true, digB, decide_eq_true_eq] at h
  obtain ⟨n, hn⟩ := decFrom_all l (a * 10 + (b.toNat - 48)) (by simpa [digB] using h.2)
  refine ⟨n, ?_⟩
  rw [Lib.decFrom, Lib.digitVal, if_pos (by omega)]
  exact hn
theorem atoi_some {s : List UInt8} (h0 : trimM s ≠ []) (h : (trimM s).all digB = true) : ∃ n, Lib.atoi s = some n := by
 cases s with
 | nil => exact absurd rfl h0
 | cons b l =>
  by_cases hb : b = 45
  ·subst hb
   have e : trimM (45 :: l) = l := by simp [trimM]
   rw [e] at h h0
   obtain ⟨n, hn⟩ := decFrom_all l 0 h
   refine ⟨-(n : Int), ?_⟩
   have : l.isEmpty = false := by cases l <;> simp_all
   simp [Lib.atoi, Lib.decNat, this, hn]
  ·have e : trimM (b :: l) = b :: l := by simp [trimM, hb]
   rw [e] at h
   obtain ⟨n, hn⟩ := decFrom_all (b :: l) 0 h
   refine ⟨(n : Int), ?_⟩
   have h43 : b ≠ 43 := fun e => by subst e; simp [digB] at h
   simp [Lib.atoi, hb, h43, Lib.decNat, hn]
theorem number_c (s : List UInt8) (hs : s.length ≤ 18) : ACalls Tryz.prog 128 [.p (.str s)] [] fun y H' => y = .tup [.p (.int .i64 (numF s).1), .p (.int .i64 (numF s).2)] ∧ H' = [] := by
 have htl : (trimM s).length ≤ 18 := by
  unfold trimM
  split
  ·rw [List.length_drop]; omega
  ·omega
 have hat := fun h0 h => atoi_some (s := s) h0 h
 have hnum : numF s = _ := rfl
 unfold numF at hnum ⊢
 clear hnum
 refine acalls_weak [11] (fn := Tryz.f128) Tryz.func128 rfl isF128 ?_
 simp (disch := omega) only [Tryz.f128, go_sem, seval]
 refine (trimP_c s (by omega)).use ?_
 simp (disch := omega) only [go_sem, seval]
 generalize trimM s = d at *
 have hdl : d = [] ∨ 0 < d.length := by cases d <;> simp
 rcases hdl with he | hdl
 ·subst he
  rw [if_pos (.inl rfl)]
  refine aguard_f (fun h1 => ?_) (fun h1 => ?_) <;> (try simp only [decide_eq_true_eq, decide_eq_false_iff_not] at h1) <;> simp (disch := omega) only [Sh.out h1, go_sem, seval]
  ·exact ⟨_, _, Weak.mk (by simp (disch := omega) only [go_sem, seval]), rfl, rfl⟩
  ·exact absurd trivial h1
 ·have hne : ¬ d = [] := List.length_pos_iff.1 hdl
  have hb := u8_lt (nth d 0)
  refine aguard_f (fun h1 => ?_) (fun h1 => ?_) <;> (try simp only [decide_eq_true_eq, decide_eq_false_iff_not] at h1) <;> simp (disch := omega) only [Sh.out h1, go_sem, seval]
  ·exact absurd h1 hne
  ·refine aguard_t (fun h2 => ?_) (fun h2 => ?_) <;> (try simp only [decide_eq_true_eq, decide_eq_false_iff_not] at h2) <;> simp (disch := omega) only [Sh.out h2, go_sem, seval]
   ·refine acond_b (fun h3 => ?_) (fun h3 => ?_) <;> (try simp only [decide_eq_true_eq, decide_eq_false_iff_not] at h3) <;> simp (disch := omega) only [Sh.out h3, go_sem, seval]
    ·rw [if_pos (.inr ⟨by omega, h3⟩)]
     exact ⟨_, _, Weak.mk (by simp (disch := omega) only [go_sem, seval]), rfl, rfl⟩
    ·rw [if_neg (by rintro (e | e); exact hne e; exact e.2 (by simpa using h3))]
     refine awp_forC [11] [0, 4, 22] (fun k : Nat => [(23, .p (.int .i64 k))]) (fun _ => []) (fun k => k ≤ d.length ∧ ∀ j, j < k → digB (nth d j) = true) (fun k => d.length - k) 0 (by simp) (Weak.mk ?_) ?_
     ·simp (disch := omega) only [go_sem, seval]
     ·rintro k ⟨hk, hno⟩
      simp (disch := omega) only [go_sem, seval]
      refine acond_b (fun h7 => ?_) (fun h7 => ?_) <;> (try simp only [decide_eq_true_eq, decide_eq_false_iff_not] at h7) <;> simp (disch := omega) only [Sh.out h7, go_sem, seval]
      ·have hk2 : k < d.length := by omega
       have hbk := u8_lt (nth d k)
       have cd : ACalls Tryz.prog 182 [.p (.int .u8 ((nth d k).toNat : Nat))] [] fun y H' => y = .p (.bool (digB (nth d k))) ∧ H' = [] := tdigit_c _ (by omega)
       refine (cd).use ?_
       simp (disch := omega) only [go_sem, seval]
       cases hd : digB (nth d k) with
       | false =>
        have hall : d.all digB = false := List.all_eq_false.2 ⟨_, nth_in hk2, by rw [hd]; simp⟩
        rw [if_pos hall]
        simp (disch := omega) only [hd, Bool.not_false, go_sem, seval]
        exact ⟨_, _, Weak.mk (by simp (disch := omega) only [go_sem, seval]), rfl, rfl⟩
       | true =>
        simp (disch := omega) only [hd, Bool.not_true, Bool.false_eq_true, go_sem, seval]
        exact ⟨k + 1, ⟨by omega, upto_iff.2 ⟨hno, hd⟩⟩, by omega, Weak.mk (by simp (disch := omega) only [go_sem, seval])⟩
      ·have hall : d.all digB = true := by
        rw [List.all_eq_true]
        intro b hb
        obtain ⟨j, hj, rfl⟩ := List.mem_iff_getElem.1 hb
        rw [← nth_get hj]; exact hno j (by omega)
       obtain ⟨n, hn⟩ := hat hne hall
       rw [if_neg (by rw [hall]; simp), hn]
       refine useT (atoi_c s n hs hn) ?_
       simp (disch := omega) only [go_sem, seval]
       refine awp_seq (awp_seq (awp_opN 1 rfl rfl ?_))
       refine ⟨_, opn_nni rfl (by kernel_rfl) rfl, ?_⟩
       rintro _ rfl
       simp (disch := omega) only [go_sem, seval]
       refine awp_sound [] _ _ _ _ ?_
       simp (disch := omega) only [go_sem, seval]
       refine awp_sound [] _ _ _ _ ?_
       simp (disch := omega) only [go_sem, seval]
       exact ⟨_, _, Weak.mk (by simp (disch := omega) only [Option.getD_some, go_sem, seval]), rfl, rfl⟩
   ·rw [if_neg (by rintro (e | e); exact hne e; omega)]
    refine awp_forC [11] [0, 4, 22] (fun k : Nat => [(23, .p (.int .i64 k))]) (fun _ => []) (fun k => k ≤ d.length ∧ ∀ j, j < k → digB (nth d j) = true) (fun k => d.length - k) 0 (by simp) (Weak.mk ?_) ?_
    ·simp (disch := omega) only [go_sem, seval]
    ·rintro k ⟨hk, hno⟩
     simp (disch := omega) only [go_sem, seval]
     refine acond_b (fun h7 => ?_) (fun h7 => ?_) <;> (try simp only [decide_eq_true_eq, decide_eq_false_iff_not] at h7) <;> simp (disch := omega) only [Sh.out h7, go_sem, seval]
     ·have hk2 : k < d.length := by omega
      have hbk := u8_lt (nth d k)
      have cd : ACalls Tryz.prog 182 [.p (.int .u8 ((nth d k).toNat : Nat))] [] fun y H' => y = .p (.bool (digB (nth d k))) ∧ H' = [] := tdigit_c _ (by omega)
      refine (cd).use ?_
      simp (disch := omega) only [go_sem, seval]
      cases hd : digB (nth d k) with
      | false =>
       have hall : d.all digB = false := List.all_eq_false.2 ⟨_, nth_in hk2, by rw [hd]; simp⟩
       rw [if_pos hall]
       simp (disch := omega) only [hd, Bool.not_false, go_sem, seval]
       exact ⟨_, _, Weak.mk (by simp (disch := omega) only [go_sem, seval]), rfl, rfl⟩
      | true =>
       simp (disch := omega) only [hd, Bool.not_true, Bool.false_eq_true, go_sem, seval]
       exact ⟨k + 1, ⟨by omega, upto_iff.2 ⟨hno, hd⟩⟩, by omega, Weak.mk (by simp (disch := omega) only [go_sem, seval])⟩
     ·have hall : d.all digB = true := by
       rw [List.all_eq_true]
       intro b hb
       obtain ⟨j, hj, rfl⟩ := List.mem_iff_getElem.1 hb
       rw [← nth_get hj]; exact hno j (by omega)
      obtain ⟨n, hn⟩ := hat hne hall
      rw [if_neg (by rw [hall]; simp), hn]
      refine useT (atoi_c s n hs hn) ?_
      simp (disch := omega) only [go_sem, seval]
      refine awp_seq (awp_seq (awp_opN 1 rfl rfl ?_))
      refine ⟨_, opn_nni rfl (by kernel_rfl) rfl, ?_⟩
      rintro _ rfl
      simp (disch := omega) only [go_sem, seval]
      refine awp_sound [] _ _ _ _ ?_
      simp (disch := omega) only [go_sem, seval]
      refine awp_sound [] _ _ _ _ ?_
      simp (disch := omega) only [go_sem, seval]
      exact ⟨_, _, Weak.mk (by simp (disch := omega) only [Option.getD_some, go_sem, seval]), rfl, rfl⟩
end Go.Proofs.YtngonbhfbpnkcaaGreatDoor.K
set_option linter.unusedVariables false
set_option linter.unusedSimpArgs false
namespace Go.Proofs.YtngonbhfbpnkcaaGreatDoor.K
open Go Go.AM Go.Proofs
set_option maxRecDepth 8000
set_option maxHeartbeats 8000000
def visF (s : List UInt8) : Vis × Bool :=
 if s = [] ∨ ((nth s 0).toNat ≠ 43 ∧ (nth s 0).toNat ≠ 45) then (⟨0, false⟩, false)
 else (⟨(numF (s.drop 1)).1, decide (((nth s 0).toNat : Int) = 45)⟩, decide ((numF (s.drop 1)).2 = 0))
theorem readVisit_c (s : List UInt8) (hs : s.length ≤ 19) : ACalls Tryz.prog 130 [.p (.str s)] [] fun y H' => y = .tup [.p (eVis (visF s).1), .p (.bool (visF s).2)] ∧ H' = [] := by
 refine acalls_weak [] (fn := Tryz.f130) Tryz.func130 rfl isF130 ?_
 simp (disch := omega) only [Tryz.f130, go_sem, seval]
 unfold visF
 have hsl : s = [] ∨ 0 < s.length := by cases s <;> simp
 rcases hsl with he | hsl
 ·subst he
  rw [if_pos (.inl rfl)]
  refine aguard_f (fun h1 => ?_) (fun h1 => ?_) <;> (try simp only [decide_eq_true_eq, decide_eq_false_iff_not] at h1) <;> simp (disch := omega) only [Sh.out h1, go_sem, seval]
  ·exact ⟨_, _, Weak.mk (by simp (disch := omega) only [go_sem, seval]), rfl, rfl⟩
  ·exact absurd trivial h1
 ·have hne : ¬ s = [] := List.length_pos_iff.1 hsl
  have hb := u8_lt (nth s 0)
  have cn := number_c (s.drop 1) (by rw [List.length_drop]; omega)
  refine aguard_f (fun h1 => ?_) (fun h1 => ?_) <;> (try simp only [decide_eq_true_eq, decide_eq_false_iff_not] at h1) <;> simp (disch := omega) only [Sh.out h1, go_sem, seval]
  ·exact absurd h1 hne
  ·refine aguard_t (fun h2 => ?_) (fun h2 => ?_) <;> (try simp only [decide_eq_true_eq, decide_eq_false_iff_not] at h2) <;> simp (disch := omega) only [Sh.out h2, go_sem, seval]
   ·refine acond_b (fun h3 => ?_) (fun h3 => ?_) <;> (try simp only [decide_eq_true_eq, decide_eq_false_iff_not] at h3) <;> simp (disch := omega) only [Sh.out h3, go_sem, seval]
    ·rw [if_pos (.inr ⟨by omega, by omega⟩)]
     exact ⟨_, _, Weak.mk (by simp (disch := omega) only [go_sem, seval]), rfl, rfl⟩
    ·rw [if_neg (by rintro (e | e); exact hne e; omega), List.take_length]
     refine useT cn ?_
     simp (disch := omega) only [go_sem, seval]
     exact ⟨_, _, Weak.mk (by simp (disch := omega) only [go_sem, seval]), rfl, rfl⟩
   ·rw [if_neg (by rintro (e | e); exact hne e; omega), List.take_length]
    refine useT cn ?_
    simp (disch := omega) only [go_sem, seval]
    exact ⟨_, _, Weak.mk (by simp (disch := omega) only [go_sem, seval]), rfl, rfl⟩
def ynB (b : UInt8) : Bool := decide ((b.toNat : Int) = 121) || decide ((b.toNat : Int) = 110)
def yB (b : UInt8) : Bool := decide ((b.toNat : Int) = 121)
def rstF (s : List UInt8) : Option (Bool × List Bool) := if s = [46] then some (true, []) else if s.all ynB = true then (if s = [] then none else some (false, s.map yB)) else none
def rstV (s : List UInt8) : V := match rstF s with
 | some (c, l) => .tup [.p (.list c (l.map eB)), .p (.bool true)]
 | none => .tup [.p (.list true []), .p (.bool false)]
theorem readRests_c (s : List UInt8) (hs : s.length ≤ 1048576) (hne : s ≠ []) : ACalls Tryz.prog 129 [.p (.str s)] [] fun y H' => y = rstV s ∧ H' = [] := by
 refine acalls_weak [11] (fn := Tryz.f129) Tryz.func129 rfl isF129 ?_
 simp (disch := omega) only [Tryz.f129, go_sem, seval]
 unfold rstV rstF
 refine acond_b (fun h1 => ?_) (fun h1 => ?_) <;> (try simp only [decide_eq_true_eq, decide_eq_false_iff_not] at h1) <;> simp (disch := omega) only [Sh.out h1, go_sem, seval]
 ·exact ⟨_, _, Weak.mk (by simp (disch := omega) only [List.map_nil, go_sem, seval]), rfl, rfl⟩
 ·rw [if_neg h1]
  refine awp_forC [11] [0, 9] (fun k : Nat => [(4, .sl 0 0 k k), (10, .p (.int .i64 k))]) (fun k => [.elems 1 (((s.take k).map yB).map eB)]) (fun k => k ≤ s.length ∧ ∀ j, j < k → ynB (nth s j) = true) (fun k => s.length - k) 0 (by simp) (Weak.ofNil 4 1 rfl (by simp) (Weak.mk ?_)) ?_
  ·simp (disch := omega) only [List.take_zero, List.map_nil, go_sem, seval]
  ·rintro k ⟨hk, hno⟩
   simp (disch := omega) only [go_sem, seval]
   refine acond_b (fun h2 => ?_) (fun h2 => ?_) <;> (try simp only [decide_eq_true_eq, decide_eq_false_iff_not] at h2) <;> simp (disch := omega) only [Sh.out h2, go_sem, seval]
   ·have hk2 : k < s.length := by omega
    have hb := u8_lt (nth s k)
    have hl : (s.take k).length = k := by simp; omega
    have hnx : ((s.take (k + 1)).map yB).map eB = ((s.take k).map yB).map eB ++ [.bool (decide (((nth s k).toNat : Int) = 121))] := by
     rw [List.take_succ_eq_append_getElem hk2, List.map_append, List.map_append, nth_get hk2]; rfl
    have bad : ynB (nth s k) = false → ¬ s.all ynB = true := fun h e => by
     rw [List.all_eq_true] at e
     rw [e _ (nth_in hk2)] at h; simp at h
    refine aguard_t (fun h3 => ?_) (fun h3 => ?_) <;> (try simp only [decide_eq_true_eq, decide_eq_false_iff_not] at h3) <;> simp (disch := omega) only [Sh.out h3, go_sem, seval]
    ·refine acond_b (fun h4 => ?_) (fun h4 => ?_) <;> (try simp only [decide_eq_true_eq, decide_eq_false_iff_not] at h4) <;> simp (disch := omega) only [Sh.out h4, go_sem, seval]
     ·rw [if_neg (bad (by unfold ynB; rw [decide_eq_false h3, decide_eq_false h4]; rfl))]
      exact ⟨_, _, Weak.mk (by simp (disch := omega) only [go_sem, seval]), rfl, rfl⟩
     ·rw [if_pos ⟨hl, by omega, by omega⟩]
      simp (disch := omega) only [go_sem, seval]
      exact ⟨k + 1, ⟨by omega, upto_iff.2 ⟨hno, by unfold ynB; simp; omega⟩⟩, by omega, Weak.mk (by simp (disch := omega) only [hnx, hl, go_sem, seval])⟩
    ·rw [if_pos ⟨hl, by omega, by omega⟩]
     simp (disch := omega) only [go_sem, seval]
     exact ⟨k + 1, ⟨by omega, upto_iff.2 ⟨hno, by unfold ynB; simp; omega⟩⟩, by omega, Weak.mk (by simp (disch := omega) only [hnx, hl, go_sem, seval])⟩
   ·have hkl : k = s.length := by omega
    subst hkl
    have hall : s.all ynB = true := by
     rw [List.all_eq_true]
     intro b hb
     obtain ⟨j, hj, rfl⟩ := List.mem_iff_getElem.1 hb
     rw [← nth_get hj]; exact hno j hj
    have hpos := List.length_pos_iff.2 hne
    rw [if_pos hall, if_neg hne]
    rw [List.take_length]
    refine awp_weak (Weak.fz (o := 0) (by rfl)) ?_
    refine awp_sound [] _ _ _ _ ?_
    simp (disch := omega) only [List.map_cons, List.map_nil, List.set_cons_succ, List.set_cons_zero, go_sem, seval]
    rw [show decide (0 < (s.length : Int)) = true from decide_eq_true (by omega)]
    exact ⟨_, _, Weak.mk (by simp (disch := omega) only [go_sem, seval]), rfl, rfl⟩
end Go.Proofs.YtngonbhfbpnkcaaGreatDoor.K
set_option linter.unusedVariables false
set_option linter.unusedSimpArgs false
namespace Go.Proofs.YtngonbhfbpnkcaaGreatDoor.K
open Go Go.AM Go.Proofs
set_option maxRecDepth 8000
set_option maxHeartbeats 8000000
@[go_sem] theorem allS_strE (l : List (List UInt8)) : allS 1 (l.map strE) = true := allS_map (f := strE) (S := 1) (fun _ => rfl) l
def unsW : List UInt8 := [117, 110, 115, 101, 114, 118, 101, 100]
def okN (s : List UInt8) : Bool := decide ((numF s).2 = 0)
def lastF (l : List (List UInt8)) : Option (List Int) := if l = [] ∨ nth l 0 ≠ unsW then none else if (l.drop 1).all okN = true then some ((l.drop 1).map fun s => (numF s).1) else none
def lastV (l : List (List UInt8)) : V := match lastF l with
 | some m => .tup [.p (.list false (m.map eI)), .p (.bool true)]
 | none => .tup [.p (.list true []), .p (.bool false)]
theorem readLast_c (l : List (List UInt8)) (c : Bool) (hl : l.length ≤ 1048576) (hw : ∀ s ∈ l, s.length ≤ 18) : ACalls Tryz.prog 70 [.p (.list c (l.map strE))] [] fun y H' => y = lastV l ∧ H' = [] := by
 refine acalls_weak [12] (fn := Tryz.f70) Tryz.func70 rfl isF70 ?_
 simp (disch := omega) only [Tryz.f70, go_sem, seval]
 unfold lastV lastF
 have hll : l = [] ∨ 0 < l.length := by cases l <;> simp
 rcases hll with he | hll
 ·subst he
  rw [if_pos (.inl rfl)]
  refine aguard_f (fun h1 => ?_) (fun h1 => ?_) <;> (try simp only [decide_eq_true_eq, decide_eq_false_iff_not] at h1) <;> simp (disch := omega) only [Sh.out h1, go_sem, seval]
  ·exact ⟨_, _, Weak.mk (by simp (disch := omega) only [go_sem, seval]), rfl, rfl⟩
  ·exact absurd (by simp) h1
 ·have hne : ¬ l = [] := List.length_pos_iff.1 hll
  refine aguard_f (fun h1 => ?_) (fun h1 => ?_) <;> (try simp only [decide_eq_true_eq, decide_eq_false_iff_not] at h1) <;> simp (disch := omega) only [Sh.out h1, go_sem, seval]
  ·omega
  ·refine acond_b (fun h2 => ?_) (fun h2 => ?_) <;> (try simp only [decide_eq_true_eq, decide_eq_false_iff_not] at h2) <;> simp (disch := omega) only [Sh.out h2, go_sem, seval]
   ·rw [if_pos (.inr h2)]
    exact ⟨_, _, Weak.mk (by simp (disch := omega) only [go_sem, seval]), rfl, rfl⟩
   ·rw [if_neg (by rintro (e | e); exact hne e; exact h2 e)]
    have hdl : (l.drop 1).length = l.length - 1 := List.length_drop
    have hwd : ∀ s ∈ l.drop 1, s.length ≤ 18 := fun s h => hw s (List.mem_of_mem_drop h)
    rw [List.take_length]
    generalize l.drop 1 = r at *
    refine awp_forC [12] [19, 20] (fun k : Nat => [(4, .sl 0 0 k k), (21, .p (.int .i64 k))]) (fun k => [.elems 1 (((r.take k).map fun s => (numF s).1).map eI)]) (fun k => k ≤ r.length ∧ ∀ j, j < k → okN (nth r j) = true) (fun k => r.length - k) 0 (by simp) (Weak.ofNil 4 1 rfl (by simp) (Weak.mk ?_)) ?_
    ·simp (disch := omega) only [List.take_zero, List.map_nil, go_sem, seval]
    ·rintro k ⟨hk, hno⟩
     simp (disch := omega) only [go_sem, seval]
     refine acond_b (fun h3 => ?_) (fun h3 => ?_) <;> (try simp only [decide_eq_true_eq, decide_eq_false_iff_not] at h3) <;> simp (disch := omega) only [Sh.out h3, go_sem, seval]
     ·have hk2 : k < r.length := by omega
      have h18 := hwd _ (nth_in hk2)
      have hkl : (r.take k).length = k := by simp; omega
      have hnx : ((r.take (k + 1)).map fun s => (numF s).1).map eI = ((r.take k).map fun s => (numF s).1).map eI ++ [.int .i64 (numF (nth r k)).1] := by
       rw [List.take_succ_eq_append_getElem hk2, List.map_append, List.map_append, nth_get hk2]; rfl
      refine useT (number_c (nth r k) h18) ?_
      simp (disch := omega) only [go_sem, seval]
      refine acond_b (fun h4 => ?_) (fun h4 => ?_) <;> (try simp only [decide_eq_true_eq, decide_eq_false_iff_not] at h4) <;> simp (disch := omega) only [Sh.out h4, go_sem, seval]
      ·have hb : ¬ r.all okN = true := fun e => by
        rw [List.all_eq_true] at e
        have := e _ (nth_in hk2)
        simp only [okN, decide_eq_true_eq] at this
        exact h4 this
       rw [if_neg hb]
       exact ⟨_, _, Weak.mk (by simp (disch := omega) only [go_sem, seval]), rfl, rfl⟩
      ·rw [if_pos ⟨hkl, by omega, by omega⟩]
       simp (disch := omega) only [go_sem, seval]
       exact ⟨k + 1, ⟨by omega, upto_iff.2 ⟨hno, by simp only [okN, decide_eq_true_eq]; omega⟩⟩, by omega, Weak.mk (by simp (disch := omega) only [hnx, hkl, go_sem, seval])⟩
     ·have hkl : k = r.length := by omega
      subst hkl
      have hall : r.all okN = true := by
       rw [List.all_eq_true]
       intro b hb
       obtain ⟨j, hj, rfl⟩ := List.mem_iff_getElem.1 hb
       rw [← nth_get hj]; exact hno j hj
      rw [if_pos hall, List.take_length]
      refine awp_weak (Weak.fz (o := 0) (by rfl)) ?_
      refine awp_sound [] _ _ _ _ ?_
      simp (disch := omega) only [List.map_cons, List.map_nil, List.set_cons_succ, List.set_cons_zero, go_sem, seval]
      exact ⟨_, _, Weak.mk (by simp (disch := omega) only [go_sem, seval]), rfl, rfl⟩
end Go.Proofs.YtngonbhfbpnkcaaGreatDoor.K
set_option linter.unusedVariables false
set_option linter.unusedSimpArgs false
namespace Go.Proofs.YtngonbhfbpnkcaaGreatDoor.K
open Go Go.AM Go.Proofs
set_option maxRecDepth 8000
set_option maxHeartbeats 8000000
def rteW : List UInt8 := [114, 111, 117, 116, 101]
def zRte : Rte := ⟨0, 0, true, [], true, []⟩
def okV (s : List UInt8) : Bool := (visF s).2
def headB2 (l : List (List UInt8)) : Bool := decide ((numF (nth l 1)).2 = 0) && decide ((numF (nth l 2)).2 = 0)
def rteF (l : List (List UInt8)) : Option Rte :=
 if l.length < 4 ∨ nth l 0 ≠ rteW then none
 else match rstF (nth l 3) with
  | none => none
  | some (c, rs) => if headB2 l = true then (if (l.drop 4).all okV = true then some ⟨(numF (nth l 1)).1, (numF (nth l 2)).1, c, rs, false, (l.drop 4).map fun s => (visF s).1⟩ else none) else none
def rteV (l : List (List UInt8)) : V := match rteF l with
 | some r => .tup [.p (eRte r), .p (.bool true)]
 | none => .tup [.p (eRte zRte), .p (.bool false)]
theorem readRoute_c (l : List (List UInt8)) (c : Bool) (hl : l.length ≤ 1048576) (hw : ∀ s ∈ l, s.length ≤ 18 ∧ s ≠ []) : ACalls Tryz.prog 71 [.p (.list c (l.map strE))] [] fun y H' => y = rteV l ∧ H' = [] := by
 refine acalls_weak [19] (fn := Tryz.f71) Tryz.func71 rfl isF71 ?_
 simp (disch := omega) only [Tryz.f71, go_sem, seval]
 unfold rteV rteF
 refine aguard_f (fun h1 => ?_) (fun h1 => ?_) <;> (try simp only [decide_eq_true_eq, decide_eq_false_iff_not] at h1) <;> simp (disch := omega) only [Sh.out h1, go_sem, seval]
 ·rw [if_pos (.inl (by omega))]
  exact ⟨_, _, Weak.mk (by simp (disch := omega) only [zRte, List.map_nil, go_sem, seval]), rfl, rfl⟩
 ·have h4 : 4 ≤ l.length := by omega
  have n1 := hw _ (nth_in (show 1 < l.length by omega))
  have n2 := hw _ (nth_in (show 2 < l.length by omega))
  have n3 := hw _ (nth_in (show 3 < l.length by omega))
  have w5 : rteW = [114, 111, 117, 116, 101] := rfl
  refine acond_b (fun h2 => ?_) (fun h2 => ?_) <;> (try simp only [decide_eq_true_eq, decide_eq_false_iff_not] at h2) <;> simp (disch := omega) only [Sh.out h2, go_sem, seval]
  ·rw [if_pos (.inr h2)]
   exact ⟨_, _, Weak.mk (by simp (disch := omega) only [zRte, List.map_nil, go_sem, seval]), rfl, rfl⟩
  ·rw [if_neg (by rintro (e | e); omega; exact h2 e)]
   refine useT (number_c (nth l 1) n1.1) ?_
   simp (disch := omega) only [go_sem, seval]
   refine useT (number_c (nth l 2) n2.1) ?_
   simp (disch := omega) only [go_sem, seval]
   have cr := readRests_c (nth l 3) (by omega) n3.2
   unfold rstV at cr
   cases hr : rstF (nth l 3) with
   | none =>
    rw [hr] at cr
    refine useT cr ?_
    simp (disch := omega) only [go_sem, seval]
    exact ⟨_, _, Weak.mk (by simp (disch := omega) only [zRte, List.map_nil, go_sem, seval]), rfl, rfl⟩
   | some q =>
    obtain ⟨cc, rs⟩ := q
    rw [hr] at cr
    refine useT cr ?_
    simp (disch := omega) only [go_sem, seval]
    refine aguard_f (fun h5 => ?_) (fun h5 => ?_) <;> (try simp only [decide_eq_true_eq, decide_eq_false_iff_not] at h5) <;> simp (disch := omega) only [Sh.out h5, go_sem, seval]
    ·have hb : ¬ headB2 l = true := by unfold headB2; rw [decide_eq_false h5]; simp
     rw [if_neg hb]
     exact ⟨_, _, Weak.mk (by simp (disch := omega) only [zRte, List.map_nil, go_sem, seval]), rfl, rfl⟩
    ·refine acond_b (fun h6 => ?_) (fun h6 => ?_) <;> (try simp only [decide_eq_true_eq, decide_eq_false_iff_not] at h6) <;> simp (disch := omega) only [Sh.out h6, go_sem, seval]
     ·have hb : ¬ headB2 l = true := by unfold headB2; rw [decide_eq_false h6]; simp
      rw [if_neg hb]
      exact ⟨_, _, Weak.mk (by simp (disch := omega) only [zRte, List.map_nil, go_sem, seval]), rfl, rfl⟩
     ·have hb : headB2 l = true := by unfold headB2; simp; omega
      rw [if_pos hb]
      have hdl : (l.drop 4).length = l.length - 4 := List.length_drop
      have hwd : ∀ s ∈ l.drop 4, s.length ≤ 18 := fun s h => (hw s (List.mem_of_mem_drop h)).1
      rw [List.take_length]
      generalize l.drop 4 = r at *
      generalize (numF (nth l 1)).1 = x1 at *
      generalize (numF (nth l 2)).1 = x2 at *
      refine awp_forC [19] [2, 4, 58, 59] (fun k : Nat => [(60, .p (.int .i64 k))]) (fun k => [rteO zRte, .cells [.p (.int .i64 x1), .p (.int .i64 x2), .p (.list cc (rs.map eB)), .sl 2 0 k k], .elems 2 (((r.take k).map fun s => (visF s).1).map eVis)]) (fun k => k ≤ r.length ∧ ∀ j, j < k → okV (nth r j) = true) (fun k => r.length - k) 0 (by simp) ((Weak.nilC (o := 1) (j := 3) 2 rfl rfl (by simp)).trans (Weak.mk ?_)) ?_
      ·simp (disch := omega) only [rteO, zRte, List.map_nil, List.take_zero, List.set_cons_succ, List.set_cons_zero, List.cons_append, List.nil_append, go_sem, seval]
      ·rintro k ⟨hk, hno⟩
       simp (disch := omega) only [rteO, zRte, List.map_nil, go_sem, seval]
       refine acond_b (fun h7 => ?_) (fun h7 => ?_) <;> (try simp only [decide_eq_true_eq, decide_eq_false_iff_not] at h7) <;> simp (disch := omega) only [Sh.out h7, go_sem, seval]
       ·have hk2 : k < r.length := by omega
        have h18 := hwd _ (nth_in hk2)
        have hkl : (r.take k).length = k := by simp; omega
        have hnx : ((r.take (k + 1)).map fun s => (visF s).1).map eVis = ((r.take k).map fun s => (visF s).1).map eVis ++ [eVis (visF (nth r k)).1] := by
         rw [List.take_succ_eq_append_getElem hk2, List.map_append, List.map_append, nth_get hk2]; rfl
        refine useT (readVisit_c (nth r k) (by omega)) ?_
        simp (disch := omega) only [go_sem, seval]
        cases hv : (visF (nth r k)).2 with
        | false =>
         have hb : ¬ r.all okV = true := fun e => by
          rw [List.all_eq_true] at e
          have := e _ (nth_in hk2)
          simp only [okV, hv] at this
          cases this
         rw [if_neg hb]
         simp (disch := omega) only [hv, Bool.not_false, go_sem, seval]
         exact ⟨_, _, Weak.mk (by simp (disch := omega) only [zRte, List.map_nil, go_sem, seval]), rfl, rfl⟩
        | true =>
         simp (disch := omega) only [hv, Bool.not_true, Bool.false_eq_true, go_sem, seval]
         rw [if_pos ⟨hkl, by omega, by omega⟩]
         simp (disch := omega) only [hkl, go_sem, seval]
         exact ⟨k + 1, ⟨by omega, upto_iff.2 ⟨hno, hv⟩⟩, by omega, Weak.mk (by simp (disch := omega) only [rteO, zRte, List.map_nil, hnx, hkl, go_sem, seval])⟩
       ·have hkl : k = r.length := by omega
        subst hkl
        have hall : r.all okV = true := by
         rw [List.all_eq_true]
         intro b hb
         obtain ⟨j, hj, rfl⟩ := List.mem_iff_getElem.1 hb
         rw [← nth_get hj]; exact hno j hj
        rw [if_pos hall, List.take_length]
        refine awp_weak (Weak.fz (o := 2) (by rfl)) ?_
        refine awp_sound [] _ _ _ _ ?_
        simp (disch := omega) only [List.map_cons, List.map_nil, List.set_cons_succ, List.set_cons_zero, go_sem, seval]
        exact ⟨_, _, Weak.mk (by simp (disch := omega) only [go_sem, seval]), rfl, rfl⟩
end Go.Proofs.YtngonbhfbpnkcaaGreatDoor.K
set_option linter.unusedVariables false
set_option linter.unusedSimpArgs false
namespace Go.Proofs.YtngonbhfbpnkcaaGreatDoor.K
open Go Go.AM Go.Proofs
set_option maxRecDepth 8000
set_option maxHeartbeats 8000000
def zPln : Pln := ⟨true, [], true, []⟩
def okT : Nat → List UInt8 → Bool
 | 0, _ => true
 | f + 1, s => if (cutS s 10).2.2 = false then true else match wrdF (cutS s 10).1.length (cutS s 10).1 with
  | none => true
  | some ws => (ws.all fun w => decide (w.length ≤ 18) && decide (w ≠ [])) && okT f (cutS s 10).2.1
def parF : Nat → Int → List Rte → List UInt8 → Pln × Int × Int
 | 0, n, _, _ => (zPln, n, 3)
 | f + 1, n, rs, s => if (cutS s 10).2.2 = false then (zPln, n, 3) else match wrdF (cutS s 10).1.length (cutS s 10).1 with
  | none => (zPln, n, 3)
  | some ws => match lastF ws with
   | some us => if (cutS s 10).2.1 ≠ [] then (zPln, n, 3) else (⟨false, rs, false, us⟩, 0, 0)
   | none => match rteF ws with
    | none => (zPln, n, 3)
    | some r => parF f (n + 1) (rs ++ [r]) (cutS s 10).2.1
def parV (q : Pln × Int × Int) : V := .tup [.p (ePln q.1), .p (.int .i64 q.2.1), .p (.int .i64 q.2.2)]
theorem cutS_len {s : List UInt8} (h : ¬ (cutS s 10).2.2 = false) : (cutS s 10).2.1.length < s.length ∧ (cutS s 10).1.length ≤ s.length := by
 have hb := ixB_lt 10 s
 unfold cutS at *
 split at h
 ·rename_i hh
  rw [if_pos hh]
  simp only [List.length_drop, List.length_take]
  omega
 ·exact absurd rfl h
theorem cutS_le (s : List UInt8) : (cutS s 10).1.length ≤ s.length := by
 unfold cutS
 split
 ·simp only [List.length_take]; omega
 ·exact Nat.le_refl _
theorem wrdF_len : ∀ (n : Nat) (s : List UInt8) (ws : List (List UInt8)), wrdF n s = some ws → ws.length ≤ n
 | n, [], ws, h => by
  have e : wrdF n [] = some [] := by cases n <;> rfl
  rw [e] at h; cases h; simp
 | 0, b :: l, ws, h => by cases h
 | n + 1, b :: l, ws, h => by
  rw [wrdF] at h
  split at h
  ·cases h
  ·split at h
   ·cases h; simp
   ·split at h
    ·cases h
    ·rw [Option.map_eq_some_iff] at h
     obtain ⟨r, hr, rfl⟩ := h
     have := wrdF_len n _ r hr
     simp only [List.length_cons]; omega
theorem cutS_plain {s : List UInt8} (h : plainS s) : plainS (cutS s 10).1 ∧ plainS (cutS s 10).2.1 := by
 unfold cutS
 split
 ·exact ⟨fun b hb => h b (List.mem_of_mem_take hb), fun b hb => h b (List.mem_of_mem_drop hb)⟩
 ·exact ⟨h, fun b hb => by cases hb⟩
theorem parse_c (s : List UInt8) (hs : s.length ≤ 65536) (hq : plainS s) (hok : okT (s.length + 1) s = true) : ACalls Tryz.prog 32 [.p (.str s)] [] fun y H' => y = parV (parF (s.length + 1) 1 [] s) ∧ H' = [] := by
 refine acalls_weak [16] (fn := Tryz.f32) Tryz.func32 rfl isF32 ?_
 simp (disch := omega) only [Tryz.f32, go_sem, seval]
 refine acond_b (fun h0 => ?_) (fun h0 => ?_) <;> (try simp only [decide_eq_true_eq, decide_eq_false_iff_not] at h0) <;> simp (disch := omega) only [Sh.out h0, go_sem, seval]
 ·omega
 ·refine awp_forC [16] [2, 5] (fun q : Nat × List UInt8 × List Rte => [(0, .p (.str q.2.1)), (6, .p (.int .i64 ((q.1 : Int) + 1)))])
   (fun q => [plnO zPln, .cells [.sl 2 0 q.2.2.length q.2.2.length, .p (.list true [])], .elems 4 (q.2.2.map eRte)])
   (fun q => q.1 + q.2.1.length ≤ s.length ∧ q.2.2.length = q.1 ∧ plainS q.2.1 ∧ okT (s.length + 1 - q.1) q.2.1 = true ∧ parF (s.length + 1) 1 [] s = parF (s.length + 1 - q.1) ((q.1 : Int) + 1) q.2.2 q.2.1) (fun q => q.2.1.length) (0, s, []) (by simpa using ⟨hq, hok⟩) ((Weak.nilC (o := 1) (j := 0) 4 rfl rfl (by simp)).trans (Weak.mk ?_)) ?_
  ·simp (disch := omega) only [plnO, zPln, List.map_nil, List.length_nil, List.set_cons_succ, List.set_cons_zero, List.cons_append, List.nil_append, go_sem, seval]
  ·rintro ⟨k, t, rs⟩ ⟨h1, h2, h3, h4, h5⟩
   simp only at h1 h2 h3 h4 h5
   rw [h5]
   obtain ⟨f, hf⟩ : ∃ f, s.length + 1 - k = f + 1 := ⟨s.length - k, by omega⟩
   rw [hf] at h4 h5 ⊢
   have hcp := cutS_plain h3
   have hcl := @cutS_len t
   simp (disch := omega) only [plnO, zPln, List.map_nil, go_sem, seval]
   refine useT3' (cut_c t 10 (by omega)) ?_
   simp (disch := omega) only [go_sem, seval]
   have hle := cutS_le t
   have cw := words_c (cutS t 10).1 (by omega) hcp.1
   rw [okT] at h4
   rw [parF] at h5
   rw [parF]
   generalize (cutS t 10).1 = c1 at *
   generalize (cutS t 10).2.1 = c2 at *
   generalize (cutS t 10).2.2 = c3 at *
   cases hw : wrdF c1.length c1 with
   | none =>
    rw [hw] at cw
    refine useT cw ?_
    cases c3 with
    | false =>
     rw [if_pos rfl]
     simp (disch := omega) only [Bool.not_false, go_sem, seval]
     exact ⟨_, _, Weak.mk (by simp (disch := omega) only [parV, zPln, List.map_nil, go_sem, seval]), rfl, rfl⟩
    | true =>
     rw [if_neg (by simp)]
     simp (disch := omega) only [Bool.not_true, go_sem, seval]
     exact ⟨_, _, Weak.mk (by simp (disch := omega) only [parV, zPln, List.map_nil, go_sem, seval]), rfl, rfl⟩
   | some ws =>
    rw [hw] at cw
    refine useT cw ?_
    cases c3 with
    | false =>
     rw [if_pos rfl]
     simp (disch := omega) only [Bool.not_false, go_sem, seval]
     exact ⟨_, _, Weak.mk (by simp (disch := omega) only [parV, zPln, List.map_nil, go_sem, seval]), rfl, rfl⟩
    | true =>
     rw [if_neg (by simp)]
     rw [if_neg (by simp), hw] at h4
     simp only [Bool.and_eq_true, List.all_eq_true, decide_eq_true_eq] at h4
     simp (disch := omega) only [Bool.not_true, go_sem, seval]
     have hlt := (hcl (by simp)).1
     have hwl := wrdF_len _ _ _ hw
     have cl := readLast_c ws false (by omega) (fun w hw => (h4.1 w hw).1)
     have crt := readRoute_c ws false (by omega) (fun w hw => h4.1 w hw)
     unfold lastV at cl
     unfold rteV at crt
     cases hu : lastF ws with
     | some us =>
      rw [hu] at cl
      refine useT cl ?_
      simp (disch := omega) only [go_sem, seval]
      refine acond_b (fun h6 => ?_) (fun h6 => ?_) <;> (try simp only [decide_eq_true_eq, decide_eq_false_iff_not] at h6) <;> simp (disch := omega) only [Sh.out h6, go_sem, seval]
      ·rw [if_pos h6]
       exact ⟨_, _, Weak.mk (by simp (disch := omega) only [parV, zPln, List.map_nil, go_sem, seval]), rfl, rfl⟩
      ·rw [if_neg h6]
       refine awp_weak (Weak.fz (o := 2) (by rfl)) ?_
       refine awp_sound [] _ _ _ _ ?_
       simp (disch := omega) only [List.map_cons, List.map_nil, List.set_cons_succ, List.set_cons_zero, go_sem, seval]
       exact ⟨_, _, Weak.mk (by simp (disch := omega) only [parV, go_sem, seval]), rfl, rfl⟩
     | none =>
      rw [hu] at cl
      refine useT cl ?_
      simp (disch := omega) only [go_sem, seval]
      cases hr : rteF ws with
      | none =>
       rw [hr] at crt
       refine useT crt ?_
       simp (disch := omega) only [go_sem, seval]
       exact ⟨_, _, Weak.mk (by simp (disch := omega) only [parV, zPln, List.map_nil, go_sem, seval]), rfl, rfl⟩
      | some r =>
       rw [hr] at crt
       refine useT crt ?_
       simp (disch := omega) only [go_sem, seval]
       exact ⟨(k + 1, c2, rs ++ [r]), ⟨by simp only; omega, by simp only [List.length_append, List.length_cons, List.length_nil]; omega, hcp.2, by rw [show s.length + 1 - (k + 1) = f by omega]; exact h4.2, by
        simp only
        rw [show s.length + 1 - (k + 1) = f by omega, show (((k + 1 : Nat) : Int) + 1) = (k : Int) + 1 + 1 by omega]⟩, by simp only; omega, Weak.mk (by simp (disch := omega) only [plnO, zPln, List.map_nil, List.length_append, List.length_cons, List.length_nil, List.map_append, List.map_cons, go_sem, seval])⟩
end Go.Proofs.YtngonbhfbpnkcaaGreatDoor.K
set_option linter.unusedVariables false
set_option linter.unusedSimpArgs false
namespace Go.Proofs.YtngonbhfbpnkcaaGreatDoor.K
open Go Go.AM Go.Proofs
set_option maxRecDepth 8000
def awkS : List UInt8 := [114, 111, 117, 116, 101, 32, 48, 32, 48, 32, 46, 32, 43, 50, 32, 45, 50, 10, 117, 110, 115, 101, 114, 118, 101, 100, 32, 48, 32, 49, 10]
def awkP : Pln := ⟨false, [⟨0, 0, true, [], false, [⟨2, false⟩, ⟨2, true⟩]⟩], false, [0, 1]⟩
theorem awk_ok : okT (awkS.length + 1) awkS = true := by decide +kernel
theorem awk_plain : plainS awkS := by
 have h : awkS.all (fun b => decide (b.toNat ≠ 34)) = true := by decide +kernel
 intro b hb
 have := List.all_eq_true.1 h b hb
 simpa using this
theorem awk_par : parF (awkS.length + 1) 1 [] awkS = (awkP, 0, 0) := by kernel_rfl
theorem parseAwk_c : ACalls Tryz.prog 32 [.p (.str awkS)] [] fun y H' => y = .tup [.p (ePln awkP), .p (.int .i64 0), .p (.int .i64 0)] ∧ H' = [] := by
 have h := parse_c awkS (by decide) awk_plain awk_ok
 rw [awk_par] at h
 exact h
end Go.Proofs.YtngonbhfbpnkcaaGreatDoor.K
set_option linter.unusedVariables false
set_option linter.unusedSimpArgs false
namespace Go.Proofs.YtngonbhfbpnkcaaGreatDoor.K
open Go Go.AM Go.Proofs
set_option maxRecDepth 60000
set_option maxHeartbeats 8000000
def awkQ : Pln := ⟨false, [⟨0, 0, true, [], false, [⟨2, false⟩, ⟨2, true⟩]⟩], false, [0, 1]⟩
theorem awk_prs : prS awkQ = awkS := by kernel_rfl
theorem awk_prOk : PrOk awkQ := by
 refine ⟨by decide, by decide, fun r hr => ?_, fun u hu => ?_⟩
 ·simp only [awkQ, List.mem_cons, List.not_mem_nil, or_false] at hr
  subst hr
  refine ⟨by decide, ⟨by decide, by decide⟩, ⟨by decide, by decide⟩, rfl, fun v hv => ?_⟩
  simp only [List.mem_cons, List.not_mem_nil, or_false] at hv
  rcases hv with rfl | rfl <;> exact ⟨by decide, by decide⟩
 ·simp only [awkQ, List.mem_cons, List.not_mem_nil, or_false] at hu
  rcases hu with rfl | rfl <;> exact ⟨by decide, by decide⟩
theorem awk_same : sameP awkQ awkP = true := rfl
theorem awk_len (q : Pln) (h : q = awkQ ∨ q = awkP) : q.routes.length ≤ 1048576 ∧ q.unserved.length ≤ 1048576 ∧ ∀ r ∈ q.routes, rteB r := by
 rcases h with rfl | rfl
 all_goals
  refine ⟨by decide, by decide, fun r hr => ?_⟩
  simp only [awkQ, awkP, List.mem_cons, List.not_mem_nil, or_false] at hr
  subst hr
  exact ⟨by decide, by decide⟩
theorem awake23_c : ACalls Tryz.prog 29 [] [] fun y H' => y = .p (.bool true) ∧ H' = [] := by
 refine acalls_weak [1] (fn := Tryz.f29) Tryz.func29 rfl isF29 ?_
 simp (disch := omega) only [Tryz.f29, go_sem, seval]
 refine awp_seq (awp_mid2 3 3 ?_)
 simp (disch := omega) only [go_sem, seval]
 refine ⟨_, _, Weak.fz (o := 0) (by rfl), ?_⟩
 simp (disch := omega) only [List.map_cons, List.map_nil, List.set_cons_succ, List.set_cons_zero, List.cons_append, List.nil_append, go_sem, seval]
 refine ⟨_, _, (Weak.fz (o := 1) (by rfl)).trans (Weak.fz (o := 2) (by rfl)), ?_⟩
 simp (disch := omega) only [List.map_cons, List.map_nil, List.set_cons_succ, List.set_cons_zero, List.cons_append, List.nil_append, go_sem, seval]
 refine awp_sound [] _ _ _ _ ?_
 simp (disch := omega) only [go_sem, seval]
 refine useT3 parseAwk_c ?_
 simp (disch := omega) only [go_sem, seval]
 refine (print_c awkQ awk_prOk).use ?_
 rw [awk_prs]
 simp (disch := omega) only [awkS, decide_true, go_sem, seval]
 refine (pSame_c awkQ awkP (awk_len _ (.inl rfl)) (awk_len _ (.inr rfl))).use ?_
 rw [awk_same]
 simp (disch := omega) only [go_sem, seval]
 refine (bare_c).use ?_
 simp (disch := omega) only [go_sem, seval]
 refine (pChk_c bareI zPl0 bareOk (by decide) (by decide) (by simp [zPl0])).use ?_
 rw [chk_bare]
 simp (disch := omega) only [go_sem, seval]
 exact ⟨_, _, Weak.mk (by simp (disch := omega) only [go_sem, seval]), rfl, rfl⟩
end Go.Proofs.YtngonbhfbpnkcaaGreatDoor.K
set_option linter.unusedVariables false
set_option linter.unusedSimpArgs false
namespace Go.Proofs.YtngonbhfbpnkcaaGreatDoor.K
open Go Go.AM Go.Proofs
set_option maxRecDepth 60000
set_option maxHeartbeats 8000000
@[go_sem ↓] theorem hid_hide {c : Code} {t} : AM.hid (hide c t) = AM.hid c := Eq.trans rfl rfl
def orS (l : List Col) : Nat := l.foldl (fun a c => a ||| c.set.toNat) 0
theorem orS_succ {l : List Col} {k : Nat} (h : k < l.length) : orS (l.take (k + 1)) = orS (l.take k) ||| (nth l k).set.toNat := by
 unfold orS
 rw [List.take_succ_eq_append_getElem h, List.foldl_append, nth_get h]; rfl
theorem orS_lt {l : List Col} (h : ∀ c ∈ l, 0 ≤ c.set ∧ c.set < 9223372036854775808) : orS l < 9223372036854775808 := by
 unfold orS
 have : ∀ (l : List Col) (a : Nat), (∀ c ∈ l, 0 ≤ c.set ∧ c.set < 9223372036854775808) → a < 9223372036854775808 → l.foldl (fun a c => a ||| c.set.toNat) a < 9223372036854775808 := by
  intro l
  induction l with
  | nil => intro a _ ha; exact ha
  | cons c l ih =>
   intro a hl ha
   have hc := hl c (by simp)
   exact ih _ (fun d hd => hl d (by simp [hd])) (Nat.or_lt_two_pow (n := 63) ha (by omega))
 exact this l 0 h (by omega)
theorem or63 {a b : Nat} (ha : a < 9223372036854775808) (hb : b < 9223372036854775808) : IntKind.i64.wrap ((BitVec.ofInt 64 (a : Int) ||| BitVec.ofInt 64 (b : Int)).toNat : Int) = ((a ||| b : Nat) : Int) := by
 have h := Nat.or_lt_two_pow (n := 63) ha hb
 rw [BitVec.ofInt_natCast, BitVec.ofInt_natCast, BitVec.toNat_or, BitVec.toNat_ofNat, BitVec.toNat_ofNat, Nat.mod_eq_of_lt (by omega), Nat.mod_eq_of_lt (by omega), IntKind.wrap_i64]
 omega
def ofU (x : Inst) (S n : Nat) : List Int := ((List.range n).filter fun i => !(nth x.orders i).off && !S.testBit i).map Int.ofNat
theorem ofU_succ {x : Inst} {S n : Nat} : ofU x S (n + 1) = ofU x S n ++ if (!(nth x.orders n).off && !S.testBit n) = true then [(n : Int)] else [] := by
 unfold ofU
 rw [List.range_succ, List.filter_append, List.map_append]
 congr 1
 by_cases h : (!(nth x.orders n).off && !S.testBit n) = true
 ·rw [if_pos h]; simp [List.filter, h]
 ·rw [if_neg h]; simp [List.filter, h]
theorem ofU_len {x : Inst} {S n : Nat} : (ofU x S n).length ≤ n := by
 unfold ofU
 have := List.length_filter_le (fun i => !(nth x.orders i).off && !S.testBit i) (List.range n)
 simpa using this
def ofP (x : Inst) (l : List Col) : Pln := ⟨false, l.map Col.route, false, ofU x (orS l) x.orders.length⟩
def rts (l : List Col) (k : Nat) : List Rte := (l.take k).map Col.route
theorem rts_succ {l : List Col} {k : Nat} (h : k < l.length) : rts l (k + 1) = rts l k ++ [(nth l k).route] := by
 unfold rts
 rw [List.take_succ_eq_append_getElem h, nth_get h, List.map_append]; rfl
theorem rts_len {l : List Col} {k : Nat} (h : k ≤ l.length) : (rts l k).length = k := by simp [rts]; omega
theorem pOf_c (x : Inst) (l : List Col) (c : Bool) (hx : InstOk x) (hl : l.length ≤ 1048576) (hs : ∀ d ∈ l, 0 ≤ d.set ∧ d.set < 9223372036854775808) (hb : ∀ d ∈ l, rteB d.route) :
  ACalls Tryz.prog 36 [.p (eInst x), .p (.list c (l.map eCol))] [] fun y H' => y = .tup [.p (ePln (if chkP x (ofP x l) = 0 then ofP x l else zPl0)), .p (.int .i64 (chkP x (ofP x l)))] ∧ H' = [] := by
 have hn := ord10 hx
 refine acalls_weak [3, 15] (fn := Tryz.f36) Tryz.func36 rfl isF36 ?_
 simp (disch := omega) only [Tryz.f36, go_sem, seval]
 refine awp_weak (Weak.nilC (o := 2) (j := 0) 4 (by rfl) (by rfl) (by simp)) ?_
 refine awp_weak (Weak.nilC (o := 2) (j := 1) 1 (by rfl) (by rfl) (by simp)) ?_
 refine awp_sound [15] _ _ _ _ ?_
 simp (disch := omega) only [List.set_cons_succ, List.set_cons_zero, List.cons_append, List.nil_append, List.length_cons, List.length_nil, go_sem, seval]
 refine awp_for [2, 4, 6, 13, 14] (fun k : Nat => [(7, .p (.int .i64 ((orS (l.take k) : Nat) : Int))), (15, .p (.int .i64 k))]) (fun k => [instO x, .cells [.p (.list true []), .p (.list true [])], .cells [.sl 3 0 (rts l k).length (rts l k).length, .sl 4 0 0 0], .elems 4 ((rts l k).map eRte), .elems 1 []]) (fun k => k ≤ l.length) (fun k => l.length - k) 0 (by simp) (Weak.mk ?_) ?_
 ·simp (disch := omega) only [instO, rts, List.take_zero, List.map_nil, orS, List.foldl_nil, List.length_nil, go_sem, seval]
 ·intro k hk
  simp (disch := omega) only [instO, go_sem, seval]
  refine acond_b (fun h1 => ?_) (fun h1 => ?_) <;> (try simp only [decide_eq_true_eq, decide_eq_false_iff_not] at h1) <;> simp (disch := omega) only [Sh.out h1, go_sem, seval]
  ·have hk2 : k < l.length := by omega
   have hm := nth_in hk2
   have ho1 := orS_lt (l := l.take k) fun d hd => hs d (List.mem_of_mem_take hd)
   have hsd := hs _ hm
   have ho2 := or63 (a := orS (l.take k)) (b := (nth l k).set.toNat) ho1 (by omega)
   rw [← orS_succ hk2, show (((nth l k).set.toNat : Nat) : Int) = (nth l k).set by omega] at ho2
   have htl := rts_len (l := l) (k := k) (by omega)
   have hts := rts_succ hk2
   rw [if_pos ⟨by omega, by omega⟩]
   simp (disch := omega) only [ho2, go_sem, seval]
   refine ⟨k + 1, by omega, by omega, Weak.mk ?_⟩
   simp (disch := omega) only [instO, hts, List.map_append, List.map_cons, List.map_nil, List.length_append, List.length_cons, List.length_nil, go_sem, seval]
   exact congrArg (PV.int .i64) ho2.symm
  ·have hkl : k = l.length := by omega
   subst hkl
   have hrl : rts l l.length = l.map Col.route := by rw [rts, List.take_length]
   rw [hrl, List.take_length]
   have hlt := orS_lt hs
   refine awp_for [2, 4, 6, 7, 32, 33] (fun k : Nat => [(34, .p (.int .i64 k))]) (fun k => [instO x, .cells [.p (.list true []), .p (.list true [])], .cells [.sl 3 0 (l.map Col.route).length (l.map Col.route).length, .sl 4 0 (ofU x (orS l) k).length (ofU x (orS l) k).length], .elems 4 ((l.map Col.route).map eRte), .elems 1 ((ofU x (orS l) k).map eI)]) (fun k => k ≤ x.orders.length) (fun k => x.orders.length - k) 0 (by simp) (Weak.mk ?_) ?_
   ·simp (disch := omega) only [instO, ofU, List.range_zero, List.filter_nil, List.map_nil, List.length_nil, go_sem, seval]
   ·intro k hk
    simp (disch := omega) only [instO, go_sem, seval]
    refine acond_b (fun h2 => ?_) (fun h2 => ?_) <;> (try simp only [decide_eq_true_eq, decide_eq_false_iff_not] at h2) <;> simp (disch := omega) only [Sh.out h2, go_sem, seval]
    ·have hk2 : k < x.orders.length := by omega
     have hsu := ofU_succ (x := x) (S := orS l) (n := k)
     generalize hoff : (nth x.orders k).off = of at *
     cases of with
     | true =>
      simp (disch := omega) only [go_sem, seval]
      rw [if_neg (by simp), List.append_nil] at hsu
      exact ⟨k + 1, by omega, by omega, Weak.mk (by simp (disch := omega) only [instO, hsu, go_sem, seval])⟩
     | false =>
      simp (disch := omega) only [go_sem, seval]
      have hul := ofU_len (x := x) (S := orS l) (n := k)
      refine acond_b (fun h3 => ?_) (fun h3 => ?_) <;> (try simp only [decide_eq_true_eq, decide_eq_false_iff_not] at h3) <;> simp (disch := omega) only [Sh.out h3, go_sem, seval]
      ·have hbit : (orS l).testBit k = false := by simpa only [bit_eq0] using h3
       rw [hbit, if_pos (by simp)] at hsu
       exact ⟨k + 1, by omega, by omega, Weak.mk (by simp (disch := omega) only [instO, hsu, List.map_append, List.map_cons, List.map_nil, List.length_append, List.length_cons, List.length_nil, go_sem, seval])⟩
      ·have hbit : (orS l).testBit k = true := by
        cases hq : (orS l).testBit k with
        | true => rfl
        | false => exact absurd (by simpa only [bit_eq0] using hq) h3
       rw [hbit, if_neg (by simp), List.append_nil] at hsu
       exact ⟨k + 1, by omega, by omega, Weak.mk (by simp (disch := omega) only [instO, hsu, go_sem, seval])⟩
    ·have hkn : k = x.orders.length := by omega
     subst hkn
     have hul := ofU_len (x := x) (S := orS l) (n := x.orders.length)
     refine awp_weak (Weak.fz (o := 3) (by rfl)) ?_
     refine awp_weak (Weak.fz (o := 4) (by rfl)) ?_
     refine awp_sound [] _ _ _ _ ?_
     simp (disch := omega) only [List.map_cons, List.map_nil, List.set_cons_succ, List.set_cons_zero, instO, go_sem, seval]
     refine (pChk_c x (ofP x l) hx (by simpa [ofP] using hl) (by simp only [ofP]; omega) (by
      intro r hr
      simp only [ofP, List.mem_map] at hr
      obtain ⟨d, hd, rfl⟩ := hr
      exact hb d hd)).use ?_
     simp (disch := omega) only [go_sem, seval]
     refine acond_b (fun h0 => ?_) (fun h0 => ?_) <;> (try simp only [decide_eq_true_eq, decide_eq_false_iff_not] at h0) <;> simp (disch := omega) only [Sh.out h0, go_sem, seval]
     ·exact ⟨_, _, Weak.mk (by simp (disch := omega) only [zPl0, List.map_nil, go_sem, seval]), rfl, rfl⟩
     ·have h0' : chkP x (ofP x l) = 0 := by omega
      simp only [if_pos h0', h0']
      exact ⟨_, _, Weak.mk (by simp (disch := omega) only [ofP, go_sem, seval]), rfl, rfl⟩
end Go.Proofs.YtngonbhfbpnkcaaGreatDoor.K
set_option linter.unusedVariables false
set_option linter.unusedSimpArgs false
namespace Go.Proofs.YtngonbhfbpnkcaaGreatDoor.K
open Go Go.AM Go.Proofs
set_option maxRecDepth 60000
set_option maxHeartbeats 8000000
theorem and_pw (S k : Nat) : ((S &&& pw k : Nat) : Int) = 0 ↔ S.testBit k = false := by
 unfold pw
 have key : ∀ i, (S &&& 2 ^ k).testBit i = (S.testBit i && decide (k = i)) := fun i => by rw [Nat.testBit_and, Nat.testBit_two_pow]
 constructor
 ·intro h
  have h0 : S &&& 2 ^ k = 0 := by omega
  have := key k
  rw [h0] at this
  simpa using this.symm
 ·intro h
  have : S &&& 2 ^ k = 0 := Nat.eq_of_testBit_eq fun i => by
   rw [key, Nat.zero_testBit]
   by_cases e : k = i
   ·subst e; simp [h]
   ·simp [e]
  omega
theorem rOf_c (x : Inst) (l : List Col) (c : Bool) (hx : InstOk x) (hl : l.length ≤ 1048576) (hs : ∀ d ∈ l, 0 ≤ d.set ∧ d.set < 9223372036854775808) (hb : ∀ d ∈ l, rteB d.route) :
  ACalls Tryz.prog 37 [.p (eInst x), .p (.list c (l.map eCol))] [] fun y H' => y = .tup [.p (ePln (if chkP x (ofP x l) = 0 then ofP x l else zPl0)), .p (.int .i64 (chkP x (ofP x l)))] ∧ H' = [] := by
 have hn := ord10 hx
 refine acalls_weak [3, 15] (fn := Tryz.f37) Tryz.func37 rfl isF37 ?_
 simp (disch := omega) only [Tryz.f37, go_sem, seval]
 refine awp_weak (Weak.nilC (o := 2) (j := 0) 4 (by rfl) (by rfl) (by simp)) ?_
 refine awp_weak (Weak.nilC (o := 2) (j := 1) 1 (by rfl) (by rfl) (by simp)) ?_
 refine awp_sound [15] _ _ _ _ ?_
 simp (disch := omega) only [List.set_cons_succ, List.set_cons_zero, List.cons_append, List.nil_append, List.length_cons, List.length_nil, go_sem, seval]
 refine awp_for [1, 2, 4, 6] (fun k : Nat => [(7, .p (.int .i64 ((orS (l.take k) : Nat) : Int))), (8, .p (.int .i64 k))]) (fun k => [instO x, .cells [.p (.list true []), .p (.list true [])], .cells [.sl 3 0 (rts l k).length (rts l k).length, .sl 4 0 0 0], .elems 4 ((rts l k).map eRte), .elems 1 []]) (fun k => k ≤ l.length) (fun k => l.length - k) 0 (by simp) (Weak.mk ?_) ?_
 ·simp (disch := omega) only [instO, rts, List.take_zero, List.map_nil, orS, List.foldl_nil, List.length_nil, go_sem, seval]
 ·intro k hk
  simp (disch := omega) only [instO, go_sem, seval]
  refine acond_b (fun h1 => ?_) (fun h1 => ?_) <;> (try simp only [decide_eq_true_eq, decide_eq_false_iff_not] at h1) <;> simp (disch := omega) only [Sh.out h1, go_sem, seval]
  ·have hk2 : k < l.length := by omega
   have hm := nth_in hk2
   have ho1 := orS_lt (l := l.take k) fun d hd => hs d (List.mem_of_mem_take hd)
   have hsd := hs _ hm
   have ho2 := or63 (a := orS (l.take k)) (b := (nth l k).set.toNat) ho1 (by omega)
   rw [← orS_succ hk2, show (((nth l k).set.toNat : Nat) : Int) = (nth l k).set by omega] at ho2
   have htl := rts_len (l := l) (k := k) (by omega)
   have hts := rts_succ hk2
   refine awp_drawnS 8 mixed (by kernel_rfl) (by kernel_rfl) ?_
   simp (disch := omega) only [go_sem, seval]
   refine ⟨k + 1, by omega, by omega, Weak.mk ?_⟩
   simp (disch := omega) only [instO, hts, List.map_append, List.map_cons, List.map_nil, List.length_append, List.length_cons, List.length_nil, go_sem, seval]
   exact congrArg (PV.int .i64) ho2.symm
  ·have hkl : k = l.length := by omega
   subst hkl
   have hrl : rts l l.length = l.map Col.route := by rw [rts, List.take_length]
   rw [hrl, List.take_length]
   have hlt := orS_lt hs
   refine awp_for [2, 4, 6, 7] (fun k : Nat => [(9, .p (.int .i64 ((pw k : Nat) : Int))), (10, .p (.int .i64 k))]) (fun k => [instO x, .cells [.p (.list true []), .p (.list true [])], .cells [.sl 3 0 (l.map Col.route).length (l.map Col.route).length, .sl 4 0 (ofU x (orS l) k).length (ofU x (orS l) k).length], .elems 4 ((l.map Col.route).map eRte), .elems 1 ((ofU x (orS l) k).map eI)]) (fun k => k ≤ x.orders.length) (fun k => x.orders.length - k) 0 (by simp) (Weak.mk ?_) ?_
   ·have hp0 : ((pw 0 : Nat) : Int) = 1 := rfl
    simp (disch := omega) only [instO, ofU, List.range_zero, List.filter_nil, List.map_nil, List.length_nil, hp0, go_sem, seval]
   ·intro k hk
    simp (disch := omega) only [instO, go_sem, seval]
    refine acond_b (fun h2 => ?_) (fun h2 => ?_) <;> (try simp only [decide_eq_true_eq, decide_eq_false_iff_not] at h2) <;> simp (disch := omega) only [Sh.out h2, go_sem, seval]
    ·have hk2 : k < x.orders.length := by omega
     have hsu := ofU_succ (x := x) (S := orS l) (n := k)
     have hps : pw (k + 1) = 2 * pw k := by unfold pw; rw [Nat.pow_succ]; omega
     have hpl : pw k ≤ 1024 := by unfold pw; exact Nat.le_trans (Nat.pow_le_pow_right (by omega) (show k ≤ 10 by omega)) (by omega)
     generalize hoff : (nth x.orders k).off = of at *
     cases of with
     | true =>
      simp (disch := omega) only [go_sem, seval]
      rw [if_neg (by simp), List.append_nil] at hsu
      exact ⟨k + 1, by omega, by omega, Weak.mk (by simp (disch := omega) only [instO, hsu, hps, Int.natCast_mul, go_sem, seval])⟩
     | false =>
      simp (disch := omega) only [go_sem, seval]
      have hul := ofU_len (x := x) (S := orS l) (n := k)
      refine acond_b (fun h3 => ?_) (fun h3 => ?_) <;> (try simp only [decide_eq_true_eq, decide_eq_false_iff_not] at h3) <;> simp (disch := omega) only [Sh.out h3, go_sem, seval]
      ·have hbit := (and_pw (orS l) k).1 h3
       rw [hbit, if_pos (by simp)] at hsu
       exact ⟨k + 1, by omega, by omega, Weak.mk (by simp (disch := omega) only [instO, hsu, hps, Int.natCast_mul, List.map_append, List.map_cons, List.map_nil, List.length_append, List.length_cons, List.length_nil, go_sem, seval])⟩
      ·have hbit : (orS l).testBit k = true := by
        cases hq : (orS l).testBit k with
        | true => rfl
        | false => exact absurd ((and_pw (orS l) k).2 hq) h3
       rw [hbit, if_neg (by simp), List.append_nil] at hsu
       exact ⟨k + 1, by omega, by omega, Weak.mk (by simp (disch := omega) only [instO, hsu, hps, Int.natCast_mul, go_sem, seval])⟩
    ·have hkn : k = x.orders.length := by omega
     subst hkn
     have hul := ofU_len (x := x) (S := orS l) (n := x.orders.length)
     refine awp_weak (Weak.fz (o := 3) (by rfl)) ?_
     refine awp_weak (Weak.fz (o := 4) (by rfl)) ?_
     refine awp_sound [] _ _ _ _ ?_
     simp (disch := omega) only [List.map_cons, List.map_nil, List.set_cons_succ, List.set_cons_zero, instO, go_sem, seval]
     refine (chk23_c x (ofP x l) hx (by simpa [ofP] using hl) (by simp only [ofP]; omega) (by
      intro r hr
      simp only [ofP, List.mem_map] at hr
      obtain ⟨d, hd, rfl⟩ := hr
      exact hb d hd)).use ?_
     simp (disch := omega) only [go_sem, seval]
     refine acond_b (fun h0 => ?_) (fun h0 => ?_) <;> (try simp only [decide_eq_true_eq, decide_eq_false_iff_not] at h0) <;> simp (disch := omega) only [Sh.out h0, go_sem, seval]
     ·exact ⟨_, _, Weak.mk (by simp (disch := omega) only [zPl0, List.map_nil, go_sem, seval]), rfl, rfl⟩
     ·have h0' : chkP x (ofP x l) = 0 := by omega
      simp only [if_pos h0', h0']
      exact ⟨_, _, Weak.mk (by simp (disch := omega) only [ofP, go_sem, seval]), rfl, rfl⟩
end Go.Proofs.YtngonbhfbpnkcaaGreatDoor.K
set_option linter.unusedVariables false
set_option linter.unusedSimpArgs false
namespace Go.Proofs.YtngonbhfbpnkcaaGreatDoor.K
open Go Go.AM Go.Proofs
set_option maxRecDepth 60000
set_option maxHeartbeats 8000000
theorem sameP_self (p : Pln) : sameP p p = true := sameP_yes rfl (fun k _ => sameR_iff.2 ⟨rfl, rfl, rfl, rfl⟩) rfl
theorem rte_wf {r : Rte} (h : r.wf 1048576) : rteB r := ⟨h.2.2.2.2.1, h.2.2.1⟩
theorem chk_ok {x : Inst} {p : Pln} : chkP x (if chkP x p = 0 then p else zPl0) = 0 ∨ ¬ chkP x p = 0 := by
 by_cases h : chkP x p = 0
 ·left; rw [if_pos h]; exact h
 ·exact .inr h
theorem lawPlanOf_c (x : Inst) (hw : x.wf 1048576) (l : List Col) (c : Bool) (hl : l.length ≤ 1048576) (hc : ∀ d ∈ l, d.wf 1048576) :
  ACalls Tryz.prog 11 [.p (eInst x), .p (.list c (l.map eCol))] [] fun y H' => y = .p (.bool true) ∧ H' = [] := by
 have hb : ∀ d ∈ l, rteB d.route := fun d hd => rte_wf (hc d hd).2.2.2
 refine acalls_pureC [2, 8] (fn := Tryz.f11) Tryz.func11 rfl isF11 ?_
 simp (disch := omega) only [Tryz.f11, go_sem, seval]
 refine awp_weak (Weak.nilC (o := 1) (j := 0) 4 (by rfl) (by rfl) (by simp)) ?_
 refine awp_sound [8] _ _ _ _ ?_
 simp (disch := omega) only [List.set_cons_succ, List.set_cons_zero, List.cons_append, List.nil_append, List.length_cons, List.length_nil, go_sem, seval]
 refine awp_for [1, 2, 5] (fun k : Nat => [(6, .p (.int .i64 k))]) (fun k => [instO x, .cells [.sl 2 0 (rts l k).length (rts l k).length, .p (.list true [])], .elems 4 ((rts l k).map eRte)]) (fun k => k ≤ l.length ∧ k ≤ 20 ∧ ∀ i, i < k → 0 ≤ (nth l i).set) (fun k => 20 - k) 0 (by simp) (Weak.mk ?_) ?_
 ·simp (disch := omega) only [instO, rts, List.take_zero, List.map_nil, List.length_nil, go_sem, seval]
 ·rintro k ⟨hk, hk20, hse⟩
  simp (disch := omega) only [instO, go_sem, seval]
  refine aguard_t (fun h1 => ?_) (fun h1 => ?_) <;> (try simp only [decide_eq_true_eq, decide_eq_false_iff_not] at h1) <;> simp (disch := omega) only [Sh.out h1, go_sem, seval]
  ·refine acond_b (fun h2 => ?_) (fun h2 => ?_) <;> (try simp only [decide_eq_true_eq, decide_eq_false_iff_not] at h2) <;> simp (disch := omega) only [Sh.out h2, go_sem, seval]
   ·have hk2 : k < l.length := by omega
    have hts := rts_succ hk2
    have htl := rts_len (l := l) (k := k) (by omega)
    refine acond_b (fun h3 => ?_) (fun h3 => ?_) <;> (try simp only [decide_eq_true_eq, decide_eq_false_iff_not] at h3) <;> simp (disch := omega) only [Sh.out h3, go_sem, seval]
    ·refine (awake23_c).use ?_
     simp (disch := omega) only [go_sem, seval]
    ·refine awp_drawnS 8 mixed (by kernel_rfl) (by kernel_rfl) ?_
     simp (disch := omega) only [go_sem, seval]
     refine ⟨k + 1, ⟨by omega, by omega, fun i hi => ?_⟩, by omega, Weak.mk ?_⟩
     ·rcases Nat.lt_or_ge i k with h | h
      ·exact hse i h
      ·have : i = k := by omega
       subst this; omega
     ·simp (disch := omega) only [instO, hts, List.map_append, List.map_cons, List.map_nil, List.length_append, List.length_cons, List.length_nil, go_sem, seval]
   ·refine awp_weak (Weak.fz (o := 2) (by rfl)) ?_
    refine awp_sound [] _ _ _ _ ?_
    simp (disch := omega) only [List.map_cons, List.map_nil, List.set_cons_succ, List.set_cons_zero, instO, go_sem, seval]
    refine ((ck13_c x hw).frozenE).useV fun m hm => ?_
    simp (disch := omega) only [go_sem, seval]
    refine aguard_f (fun h3 => ?_) (fun h3 => ?_) <;> (try simp only [decide_eq_true_eq, decide_eq_false_iff_not] at h3) <;> simp (disch := omega) only [Sh.out h3, go_sem, seval]
    ·refine (awake23_c).use ?_
     simp (disch := omega) only [go_sem, seval]
    ·have hx : InstOk x := hm.emp.1 (List.length_eq_zero_iff.1 (by omega))
     refine aguard_f (fun h4 => ?_) (fun h4 => ?_) <;> (try simp only [decide_eq_true_eq, decide_eq_false_iff_not] at h4) <;> simp (disch := omega) only [Sh.out h4, go_sem, seval]
     ·refine (awake23_c).use ?_
      simp (disch := omega) only [go_sem, seval]
     ·have hkl : k = l.length := by omega
      subst hkl
      have hs : ∀ d ∈ l, 0 ≤ d.set ∧ d.set < 9223372036854775808 := fun d hd => by
       obtain ⟨i, hi⟩ := List.mem_iff_getElem?.1 hd
       have hil := (List.getElem?_eq_some_iff.1 hi).1
       have e : nth l i = d := by rw [nth_get hil]; exact (List.getElem?_eq_some_iff.1 hi).2
       have h1 := hse i hil
       have h2 := (hc d hd).2.1
       rw [e] at h1
       exact ⟨h1, by have := h2.2; omega⟩
      have hrl : rts l l.length = l.map Col.route := by rw [rts, List.take_length]
      have hfw : (⟨false, rts l l.length, true, []⟩ : Pln).wf 1048576 := by
       refine ⟨by rw [hrl]; simpa using hl, fun r hr => ?_, by simp, by simp⟩
       rw [hrl] at hr
       obtain ⟨d, hd, rfl⟩ := List.mem_map.1 hr
       exact (hc d hd).2.2.2
      refine (few23_c ⟨false, rts l l.length, true, []⟩ hfw).useV fun b hbf => ?_
      simp (disch := omega) only [go_sem, seval]
      refine acond_b (fun h5 => ?_) (fun h5 => ?_) <;> (try simp only [decide_eq_true_eq, decide_eq_false_iff_not] at h5) <;> simp (disch := omega) only [Sh.out h5, go_sem, seval]
      ·refine (awake23_c).use ?_
       simp (disch := omega) only [go_sem, seval]
      ·have hn := ord10 hx
       refine useT' (pOf_c x l c hx hl hs hb) ?_
       simp (disch := omega) only [go_sem, seval]
       refine useT' (rOf_c x l c hx hl hs hb) ?_
       simp (disch := omega) only [go_sem, seval]
       have hPb : ∀ p : Pln, (p = ofP x l ∨ p = zPl0) → p.routes.length ≤ 1048576 ∧ p.unserved.length ≤ 1048576 ∧ ∀ r ∈ p.routes, rteB r := by
        rintro p (rfl | rfl)
        ·have hul := ofU_len (x := x) (S := orS l) (n := x.orders.length)
         refine ⟨by simpa [ofP] using hl, by simp only [ofP]; omega, fun r hr => ?_⟩
         simp only [ofP, List.mem_map] at hr
         obtain ⟨d, hd, rfl⟩ := hr
         exact hb d hd
        ·exact ⟨by simp [zPl0], by simp [zPl0], by simp [zPl0]⟩
       have hq0 : (if chkP x (ofP x l) = 0 then ofP x l else zPl0) = ofP x l ∨ (if chkP x (ofP x l) = 0 then ofP x l else zPl0) = zPl0 := by
        by_cases h : chkP x (ofP x l) = 0
        ·rw [if_pos h]; exact .inl rfl
        ·rw [if_neg h]; exact .inr rfl
       have hqc := chk_ok (x := x) (p := ofP x l)
       generalize (if chkP x (ofP x l) = 0 then ofP x l else zPl0) = q at *
       obtain ⟨q1, q2, q3⟩ := hPb q hq0
       refine (same23_c q q ⟨q1, q2, q3⟩ ⟨q1, q2, q3⟩).use ?_
       rw [sameP_self]
       simp (disch := omega) only [go_sem, seval]
       refine aguard_f (fun h6 => ?_) (fun h6 => ?_) <;> (try simp only [decide_eq_true_eq, decide_eq_false_iff_not] at h6) <;> simp (disch := omega) only [Sh.out h6, go_sem, seval]
       ·refine (awake23_c).use ?_
        simp (disch := omega) only [go_sem, seval]
       ·have h60 : chkP x (ofP x l) = 0 := by omega
        have h7 : chkP x q = 0 := hqc.resolve_right (fun h => h h60)
        refine (pChk_c x q hx q1 q2 q3).use ?_
        rw [h7]
        simp (disch := omega) only [go_sem, seval]
        refine (awake23_c).use ?_
        simp (disch := omega) only [go_sem, seval]
  ·refine awp_weak (Weak.fz (o := 2) (by rfl)) ?_
   refine awp_sound [] _ _ _ _ ?_
   simp (disch := omega) only [List.map_cons, List.map_nil, List.set_cons_succ, List.set_cons_zero, instO, go_sem, seval]
   refine ((ck13_c x hw).frozenE).useV fun m hm => ?_
   simp (disch := omega) only [go_sem, seval]
   refine aguard_f (fun h3 => ?_) (fun h3 => ?_) <;> (try simp only [decide_eq_true_eq, decide_eq_false_iff_not] at h3) <;> simp (disch := omega) only [Sh.out h3, go_sem, seval]
   ·refine (awake23_c).use ?_
    simp (disch := omega) only [go_sem, seval]
   ·have hx : InstOk x := hm.emp.1 (List.length_eq_zero_iff.1 (by omega))
    refine aguard_f (fun h4 => ?_) (fun h4 => ?_) <;> (try simp only [decide_eq_true_eq, decide_eq_false_iff_not] at h4) <;> simp (disch := omega) only [Sh.out h4, go_sem, seval]
    ·refine (awake23_c).use ?_
     simp (disch := omega) only [go_sem, seval]
    ·have hkl : k = l.length := by omega
     subst hkl
     have hs : ∀ d ∈ l, 0 ≤ d.set ∧ d.set < 9223372036854775808 := fun d hd => by
      obtain ⟨i, hi⟩ := List.mem_iff_getElem?.1 hd
      have hil := (List.getElem?_eq_some_iff.1 hi).1
      have e : nth l i = d := by rw [nth_get hil]; exact (List.getElem?_eq_some_iff.1 hi).2
      have h1 := hse i hil
      have h2 := (hc d hd).2.1
      rw [e] at h1
      exact ⟨h1, by have := h2.2; omega⟩
     have hrl : rts l l.length = l.map Col.route := by rw [rts, List.take_length]
     have hfw : (⟨false, rts l l.length, true, []⟩ : Pln).wf 1048576 := by
      refine ⟨by rw [hrl]; simpa using hl, fun r hr => ?_, by simp, by simp⟩
      rw [hrl] at hr
      obtain ⟨d, hd, rfl⟩ := List.mem_map.1 hr
      exact (hc d hd).2.2.2
     refine (few23_c ⟨false, rts l l.length, true, []⟩ hfw).useV fun b hbf => ?_
     simp (disch := omega) only [go_sem, seval]
     refine acond_b (fun h5 => ?_) (fun h5 => ?_) <;> (try simp only [decide_eq_true_eq, decide_eq_false_iff_not] at h5) <;> simp (disch := omega) only [Sh.out h5, go_sem, seval]
     ·refine (awake23_c).use ?_
      simp (disch := omega) only [go_sem, seval]
     ·have hn := ord10 hx
      refine useT' (pOf_c x l c hx hl hs hb) ?_
      simp (disch := omega) only [go_sem, seval]
      refine useT' (rOf_c x l c hx hl hs hb) ?_
      simp (disch := omega) only [go_sem, seval]
      have hPb : ∀ p : Pln, (p = ofP x l ∨ p = zPl0) → p.routes.length ≤ 1048576 ∧ p.unserved.length ≤ 1048576 ∧ ∀ r ∈ p.routes, rteB r := by
       rintro p (rfl | rfl)
       ·have hul := ofU_len (x := x) (S := orS l) (n := x.orders.length)
        refine ⟨by simpa [ofP] using hl, by simp only [ofP]; omega, fun r hr => ?_⟩
        simp only [ofP, List.mem_map] at hr
        obtain ⟨d, hd, rfl⟩ := hr
        exact hb d hd
       ·exact ⟨by simp [zPl0], by simp [zPl0], by simp [zPl0]⟩
      have hq0 : (if chkP x (ofP x l) = 0 then ofP x l else zPl0) = ofP x l ∨ (if chkP x (ofP x l) = 0 then ofP x l else zPl0) = zPl0 := by
       by_cases h : chkP x (ofP x l) = 0
       ·rw [if_pos h]; exact .inl rfl
       ·rw [if_neg h]; exact .inr rfl
      have hqc := chk_ok (x := x) (p := ofP x l)
      generalize (if chkP x (ofP x l) = 0 then ofP x l else zPl0) = q at *
      obtain ⟨q1, q2, q3⟩ := hPb q hq0
      refine (same23_c q q ⟨q1, q2, q3⟩ ⟨q1, q2, q3⟩).use ?_
      rw [sameP_self]
      simp (disch := omega) only [go_sem, seval]
      refine aguard_f (fun h6 => ?_) (fun h6 => ?_) <;> (try simp only [decide_eq_true_eq, decide_eq_false_iff_not] at h6) <;> simp (disch := omega) only [Sh.out h6, go_sem, seval]
      ·refine (awake23_c).use ?_
       simp (disch := omega) only [go_sem, seval]
      ·have h60 : chkP x (ofP x l) = 0 := by omega
       have h7 : chkP x q = 0 := hqc.resolve_right (fun h => h h60)
       refine (pChk_c x q hx q1 q2 q3).use ?_
       rw [h7]
       simp (disch := omega) only [go_sem, seval]
       refine (awake23_c).use ?_
       simp (disch := omega) only [go_sem, seval]
end Go.Proofs.YtngonbhfbpnkcaaGreatDoor.K
