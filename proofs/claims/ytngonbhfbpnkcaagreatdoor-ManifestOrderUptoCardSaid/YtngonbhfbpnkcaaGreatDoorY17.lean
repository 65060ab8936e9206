/- Declarations that the closing texts need, part 17: joined by tools/slim.py. -/
import Derived.Test.YtngonbhfbpnkcaaGreatDoorY16
import Derived.Shelf.Strings.OnBuilder
set_option linter.unusedVariables false
set_option linter.unusedSimpArgs false
namespace Go.Proofs.YtngonbhfbpnkcaaGreatDoor.K
open Go Go.AM Go.Proofs Go.Shelf Go.RowKit
set_option maxRecDepth 8000
set_option maxHeartbeats 8000000
theorem extJoin : Builder.Extra Tryz.prog layJoin_ren := {
 sizeBuilder := by kernel_rfl, liesBuilder := by kernel_rfl,
 t5 := Tryz.underlying5, a5 := Tryz.isAgg5, z5 := Tryz.sizeOf5, v5 := Tryz.zeroValue5,
 infoByte := by kernel_rfl, cellsByte := by kernel_rfl, sizeByte := by kernel_rfl, neB5 := by decide }
def joinS (xs : List (List UInt8)) (sep : List UInt8) : List UInt8 := Lib.join xs sep
theorem idE (xs : List (List UInt8)) : (xs.map fun s => (⟨s.toArray⟩ : ByteArray)).map (fun x => x.data.toList) = xs := by
 rw [List.map_map]
 rw [show ((fun x : ByteArray => x.data.toList) ∘ fun s : List UInt8 => (⟨s.toArray⟩ : ByteArray)) = id from funext fun s => by simp, List.map_id]
theorem join_c (xs : List (List UInt8)) (c : Bool) (sep : List UInt8) (hx : xs.length ≤ 1048576) (hl : (joinS xs sep).length ≤ 140737488355328) :
  ACalls Tryz.prog 126 [.p (.list c (xs.map strE)), .p (.str sep)] [] fun y H' => y = .p (.str (joinS xs sep)) ∧ H' = [] := by
 refine ⟨isF126, fun F ι w vs hr hv => ?_⟩
 obtain ⟨h1, h2⟩ := hv
 have e0 := h2 0 _ rfl
 have e1 := rv_str (h2 1 _ rfl)
 have hvs : vs = #[vs.getD 0 undef, .string ⟨sep.toArray⟩] := by
  apply Array.ext
  ·simpa using h1
  ·intro i h3 h4
   have : i = 0 ∨ i = 1 := by simp at h4; omega
   rcases this with rfl | rfl
   ·simp [Array.getD, h3]
   ·have : vs.getD 1 undef = vs[1] := by simp [Array.getD, h3]
    rw [← this, e1]; rfl
 have hι : ι = [] := List.eq_nil_of_length_eq_zero hr.len
 subst hι
 rw [hvs]
 generalize vs.getD 0 undef = v at e0
 clear hvs h1 h2 e1 vs
 have fin : ∀ {w' e}, e = Ending.returned (.string ⟨(joinS xs sep).toArray⟩) ∧ Below w.heap.size w w' → ∃ x H' ι' v, e = .returned v ∧ (x = V.p (.str (joinS xs sep)) ∧ H' = []) ∧ Go.AM.Good F [] [] w H' ι' w' ∧ RV F H' ι' w' x v := by
  rintro w' e ⟨rfl, hb⟩
  exact ⟨_, _, [], _, rfl, ⟨rfl, rfl⟩, good_below hr.fin hb, .p _ _ (.str _)⟩
 have none : ∀ a cap, xs = [] → Calls Tryz.prog 126 #[.slice a 0 cap, .string ⟨sep.toArray⟩] w fun e w' => ∃ x H' ι' v, e = .returned v ∧ (x = V.p (.str (joinS xs sep)) ∧ H' = []) ∧ Go.AM.Good F [] [] w H' ι' w' ∧ RV F H' ι' w' x v := fun a cap he => by
  refine (Any.strings_Join_none layJoin extJoin a cap ⟨sep.toArray⟩ w).mono ?_
  rintro e w' ⟨he2, rfl⟩
  refine fin ⟨?_, Below.refl _ _⟩
  rw [he2, he]; rfl
 cases e0 with | p _ _ h =>
 generalize hm : xs.map strE = ys at h
 cases h with
 | nils => exact none _ _ (by simpa using hm)
 | emp => exact none _ _ (by simpa using hm)
 | list cl xs2 b off cap S u hX hb hc hm2 hcl hS hu hr2 =>
  subst hm
  rw [List.length_map]
  have key := Any.strings_Join layJoin extJoin b off cap (xs.map fun s => ⟨s.toArray⟩) ⟨sep.toArray⟩ w ?_ hb (by rw [List.length_map]; omega) (by simpa using hc) ?_
  ·rw [List.length_map] at key
   refine key.mono fun e w' h => fin ?_
   rw [idE] at h
   simpa [joinS] using h
  ·intro j x hj
   rw [List.getElem?_map, Option.map_eq_some_iff] at hj
   obtain ⟨t, ht, rfl⟩ := hj
   have hj2 : (xs.map strE)[j]? = some (strE t) := by rw [List.getElem?_map, ht]; rfl
   have hc0 : (strE t).cells[0]? = some (.str t) := rfl
   have hS1 : S = 1 := by rw [← hS j _ hj2]; rfl
   have g1 := hu j _ 0 _ hj2 hc0
   have g2 := (hr2 j _ 0 _ hj2 hc0).str_inv
   rw [g2, hS1, Nat.mul_one, Nat.add_zero] at g1
   exact g1
  ·rw [idE]
   simpa [joinS] using hl
end Go.Proofs.YtngonbhfbpnkcaaGreatDoor.K
set_option linter.unusedVariables false
set_option linter.unusedSimpArgs false
namespace Go.Proofs.YtngonbhfbpnkcaaGreatDoor.K
open Go Go.AM Go.Proofs Go.Shelf Go.RowKit
set_option maxRecDepth 100000
set_option maxHeartbeats 8000000
theorem layWS : Lays.n166 Tryz.prog layJoin_ren := { layJoin with }
theorem laySt2 : Lays.n169 Tryz.prog layJoin_ren := { layJoin with }
theorem wstr_calls {P : Program} {ρ : Ren} (L : Lays.n166 P ρ) (X : Builder.Extra P ρ) {n : Nat} {p v : Value} {b : Nat} {xs : List Value} {w : World} (s : List UInt8) (hs : s ≠ []) (hbk : w.heap[b]? = some (.cells #[p, v] (ρ.t 72) (0, 0))) (hp : p = .pointer none ∨ p = .pointer (some ⟨b, 0, none⟩)) (hne : v.ownBlock ≠ some b)
  (hown : w.ownsRow 0 (ρ.t 5) 1 v n xs) (hb : n + s.length ≤ 140737488355328) :
  Calls P (ρ.f 166) #[.pointer (some ⟨b, 0, none⟩), .string ⟨s.toArray⟩] w fun e w' => e = .returned (.tuple #[.int .i64 s.length, .nilIface]) ∧
   ∃ v' w1 w2, Turned w w1 b #[.pointer (some ⟨b, 0, none⟩), v] (ρ.t 72) ∧ Grew w1 w2 v.ownBlock v'.ownBlock ∧ w2.ownsRow 0 (ρ.t 5) 1 v' (n + s.length) (xs ++ s.map fun x => .int .u8 x.toNat) ∧ w' = w2.setCell ⟨b, 1, none⟩ v' := by
 obtain ⟨i0, hi, hz0, hz1, hz2⟩ := info_parts X.infoByte
 have mixed := L.mixed
 have t72 := L.t72; have a72 := L.a72; have z72 := L.z72; have v72 := L.v72; have u72 := run_underlying L.t72
 have t70 := L.t70; have a70 := L.a70; have z70 := L.z70; have v70 := L.v70; have u70 := run_underlying L.t70
 have t37 := L.t37; have a37 := L.a37; have z37 := L.z37; have v37 := L.v37; have u37 := run_underlying L.t37
 have t3 := L.t3; have a3 := L.a3; have z3 := L.z3; have v3 := L.v3; have u3 := run_underlying L.t3
 have t9 := L.t9; have a9 := L.a9; have z9 := L.z9; have v9 := L.v9; have u9 := run_underlying L.t9
 have t4 := L.t4; have a4 := L.a4; have z4 := L.z4; have v4 := L.v4; have u4 := run_underlying L.t4
 have t164 := L.t164; have a164 := L.a164; have z164 := L.z164; have v164 := L.v164; have u164 := run_underlying L.t164
 have hcc : Calls P (ρ.f 240) #[.pointer (some ⟨b, 0, none⟩)] w fun e w1 => e = .returned (.tuple #[]) ∧ Turned w w1 b #[.pointer (some ⟨b, 0, none⟩), v] (ρ.t 72) := by
  rcases hp with rfl | rfl
  ·refine (Any.Builder_copyCheck_fresh { L with } X.toX72 b w (by rw [Lib.cell_of_heap hbk]; rfl) (by show w.shape? b = _; simp [World.shape?, hbk]) (Lib.frozen_of_heap hbk 0)).mono ?_
   rintro e w' ⟨rfl, rfl⟩
   exact ⟨rfl, rfl, rfl, rfl, Nat.le_refl _, by simp [World.setCell], by simp [World.setCell, Array.getElem?_modify, hbk], fun k hk => Below.heap_setCell _ _ _ _ (fun e => hk (by simpa using e))⟩
  ·refine (Any.Builder_copyCheck_used { L with } X.toX72 b w (by rw [Lib.cell_of_heap hbk]; rfl)).mono ?_
   rintro e w' ⟨rfl, rfl⟩
   exact ⟨rfl, rfl, rfl, rfl, Nat.le_refl _, rfl, hbk, fun _ _ => rfl⟩
 have e240 : ∀ args w, (callFunc (ρ.f 240) args).run P w = .ok (.enter (ρ.f 240) args) w := enters_of L.f240 (by kernel_rfl) rfl
 go_enter L.f166, Body.n166_ntmps _
 go_wp2_with (go_at_fn (ρ.f 240); refine hcc.mono ?_)
 rintro e w1 ⟨rfl, hT⟩
 have c0 : w1.cell? ⟨b, 0, none⟩ = some (.pointer (some ⟨b, 0, none⟩)) := by rw [Lib.cell_of_heap hT.at']; rfl
 have c1 : w1.cell? ⟨b, 1, none⟩ = some v := by rw [Lib.cell_of_heap hT.at']; rfl
 have hown1 : w1.ownsRow 0 (ρ.t 5) 1 v n xs := by
  rcases hown with ⟨o1, o2 | ⟨g, cap, cur, o2, o3, o4, o5⟩⟩
  ·exact ⟨o1, .inl o2⟩
  ·exact ⟨o1, .inr ⟨g, cap, cur, o2, o3, by rw [hT.other g (fun e => hne (by rw [o2, e]; rfl))]; exact o4, o5⟩⟩
 go_wp2_with (at_builtin; refine wpList_bapp rfl _ _ _ _ rfl (ρ.t 5) i0 L.t37 L.t9 hi hz0 hz1 hz2 v n xs rfl hown1 s hs rfl hb ?_)
 intro v' w2 hown' hG
 have hlt : b < w1.heap.size := (Array.getElem?_eq_some_iff.1 hT.at').1
 have hb2 : w2.heap[b]? = some (.cells #[.pointer (some ⟨b, 0, none⟩), v] (ρ.t 72) (0, 0)) := by
  rw [hG.old b hlt (fun e => hne e.symm)]
  exact hT.at'
 have d0 : w2.cell? ⟨b, 0, none⟩ = some (.pointer (some ⟨b, 0, none⟩)) := by rw [Lib.cell_of_heap hb2]; rfl
 have d1 : w2.cell? ⟨b, 1, none⟩ = some v := by rw [Lib.cell_of_heap hb2]; rfl
 have f1 : w2.frozen? ⟨b, 1, none⟩ = false := Lib.frozen_of_heap hb2 1
 obtain ⟨ao, n', cap, rfl⟩ : ∃ ao n' cap, v' = .slice ao n' cap := by
  rcases hown'.2 with ⟨hv, _⟩ | ⟨g, cap, cur, hv, _⟩
  ·exact ⟨_, _, _, hv⟩
  ·exact ⟨_, _, _, hv⟩
 go_wp2
 go_ret2
 exact ⟨by simp, _, w1, w2, hT, hG, hown', rfl⟩
theorem wstr_c {H : List AM.Obj} {o r : Nat} {bs : List UInt8} (hH : H[o]? = some (.bld 119 5 r bs)) (s : List UInt8) (hs : s ≠ []) (hl : bs.length + s.length ≤ 140737488355328) :
  ACalls Tryz.prog 56 [.bp o, .p (.str s)] H fun x H' => x = .tup [.p (.int .i64 s.length), .p .nili] ∧ H' = H.set o (.bld 119 5 r (bs ++ s)) := by
 refine ⟨isF56, fun F ι w vs hr hv => ?_⟩
 obtain ⟨h1, h2⟩ := hv
 have e0 := h2 0 _ rfl
 have e1 := rv_str (h2 1 _ rfl)
 obtain ⟨hor, hrd, b, go, q1, q2, p, v, w1, w2, w3, w4⟩ := hr.bldr o _ _ r bs hH
 have e0' : vs.getD 0 undef = .pointer (some ⟨b, 0, none⟩) := by
  generalize vs.getD 0 undef = x at e0
  cases e0 with
  | bp _ b2 T2 E2 r2 bs2 h hH2 => rw [q1] at h; simp at h; rw [h]
  | bpD _ _ h => rw [hH] at h; cases h
 have hvs : vs = #[.pointer (some ⟨b, 0, none⟩), .string ⟨s.toArray⟩] := by
  apply Array.ext
  ·simpa using h1
  ·intro i h3 h4
   have : i = 0 ∨ i = 1 := by simp at h4; omega
   rcases this with rfl | rfl
   ·have : vs.getD 0 undef = vs[0] := by simp [Array.getD, h3]
    rw [← this, e0']; rfl
   ·have : vs.getD 1 undef = vs[1] := by simp [Array.getD, h3]
    rw [← this, e1]; rfl
 subst w3
 have hne : v.ownBlock ≠ some b := fun e => by have := hr.inj o r b q1 (by rw [q2, e]); omega
 rw [hvs]
 refine (wstr_calls layWS extJoin s hs w1 w2 hne w4 hl).mono ?_
 rintro e w' ⟨rfl, v', wa, wb, hT, hG, ho, rfl⟩
 refine ⟨_, _, _, _, rfl, ⟨rfl, rfl⟩, good_wstr (bs' := bs ++ s) hr hH q1 q2 w1 hT hG (by rw [List.length_append, List.map_append]; exact ho) hne, .tup _ _ rfl fun j c hj => ?_⟩
 match j, hj with
 | 0, hj => simp at hj; subst hj; exact .p _ _ (.int _ _)
 | 1, hj => simp at hj; subst hj; exact .p _ _ .nili
 | j + 2, hj => simp at hj
theorem bstr_calls {P : Program} {ρ : Ren} (L : Lays.n169 P ρ) (X : Builder.Extra P ρ) {p v : Value} {b : Nat} {l : List UInt8} {w : World} (h0 : l ≠ []) (hbk : w.heap[b]? = some (.cells #[p, v] (ρ.t 72) (0, 0))) (hown : w.ownsRow 0 (ρ.t 5) 1 v l.length (l.map fun x => .int .u8 x.toNat)) :
  Calls P (ρ.f 169) #[.pointer (some ⟨b, 0, none⟩)] w fun e w' => e = .returned (.string ⟨l.toArray⟩) ∧ ∃ g n, v.ownBlock = some g ∧ w' = w.drew.freeze ⟨g, 0, none⟩ n := by
 have hl0 : l.length ≠ 0 := by simpa using h0
 obtain ⟨g, cap, cur, rfl, hg, hnc, hcm, hcs, htake⟩ : ∃ g cap cur, v = .slice (some ⟨g, 0, none⟩) l.length cap ∧ w.heap[g]? = some (.cells cur (ρ.t 5) (0, 0)) ∧ l.length ≤ cap ∧ cap ≤ maxLen ∧ cur.size = cap * 1 ∧ cur.toList.take (l.length * 1) = l.map fun x => Value.int .u8 x.toNat := by
  rcases hown.2 with ⟨_, hz⟩ | ⟨g, cap, cur, hv, _, r⟩
  ·exact absurd hz hl0
  ·exact ⟨g, cap, cur, hv, r⟩
 have c1 : w.drew.cell? ⟨b, 1, none⟩ = some (.slice (some ⟨g, 0, none⟩) l.length cap) := by
  have : w.drew.heap[b]? = some (.cells #[p, .slice (some ⟨g, 0, none⟩) l.length cap] (ρ.t 72) (0, 0)) := hbk
  rw [Lib.cell_of_heap this]; rfl
 have hSD : (Builtin.unsafeSliceData_ #[(ρ.t 37)] (ρ.t 127) #[.slice (some ⟨g, 0, none⟩) l.length cap]).run P w.drew = .ok (.pointer (some ⟨g, 0, none⟩)) w.drew :=
  Lib.run_unsafeSliceData_row _ _ _ _ _ _ (by omega)
 have hUS : (Builtin.unsafeString_ #[(ρ.t 127), (ρ.t 3)] (ρ.t 9) #[.pointer (some ⟨g, 0, none⟩), .int .i64 l.length]).run P w.drew = .ok (.string ⟨l.toArray⟩) (w.drew.freeze ⟨g, 0, none⟩ l.length) := by
  refine Lib.run_unsafeString_row w.drew (ρ.t 127) (ρ.t 3) (ρ.t 9) (ρ.t 5) L.t127 X.cellsByte g cur.size (by have hg' : w.drew.heap[g]? = some (.cells cur (ρ.t 5) (0, 0)) := hg; simp [World.shape?, hg']) l h0 (by omega) (by unfold maxLen at hcm; omega) ?_
  intro j x hx
  have := hown.cells (g := g) rfl j (.int .u8 x.toNat) (by simp [hx])
  exact this
 have mixed := L.mixed
 have t72 := L.t72; have a72 := L.a72; have z72 := L.z72; have v72 := L.v72; have u72 := run_underlying L.t72
 have t70 := L.t70; have a70 := L.a70; have z70 := L.z70; have v70 := L.v70; have u70 := run_underlying L.t70
 have t37 := L.t37; have a37 := L.a37; have z37 := L.z37; have v37 := L.v37; have u37 := run_underlying L.t37
 have t127 := L.t127; have a127 := L.a127; have z127 := L.z127; have v127 := L.v127; have u127 := run_underlying L.t127
 have t3 := L.t3; have a3 := L.a3; have z3 := L.z3; have v3 := L.v3; have u3 := run_underlying L.t3
 have t9 := L.t9; have a9 := L.a9; have z9 := L.z9; have v9 := L.v9; have u9 := run_underlying L.t9
 have t5 := X.t5; have a5 := X.a5; have z5 := X.z5; have v5 := X.v5; have u5 := run_underlying X.t5
 go_enter L.f169, Body.n169_ntmps _
 go_wp2
 go_region_o
 all_goals (go_wp2; go_ret; exact ⟨rfl, g, _, rfl, rfl⟩)
theorem bstr_c {H : List AM.Obj} {o r : Nat} {bs : List UInt8} (hH : H[o]? = some (.bld 119 5 r bs)) (hs : bs ≠ []) :
  ACalls Tryz.prog 58 [.bp o] H fun x H' => x = .p (.str bs) ∧ H' = H.set o .dead := by
 refine ⟨isF58, fun F ι w vs hr hv => ?_⟩
 obtain ⟨h1, h2⟩ := hv
 have e0 := h2 0 _ rfl
 obtain ⟨hor, hrd, b, go, q1, q2, p, v, w1, w2, w3, w4⟩ := hr.bldr o _ _ r bs hH
 have e0' : vs.getD 0 undef = .pointer (some ⟨b, 0, none⟩) := by
  generalize vs.getD 0 undef = x at e0
  cases e0 with
  | bp _ b2 T2 E2 r2 bs2 h hH2 => rw [q1] at h; simp at h; rw [h]
  | bpD _ _ h => rw [hH] at h; cases h
 have hvs : vs = #[.pointer (some ⟨b, 0, none⟩)] := by
  apply Array.ext
  ·simpa using h1
  ·intro i h3 h4
   have : i = 0 := by simp at h4; omega
   subst this
   have : vs.getD 0 undef = vs[0] := by simp [Array.getD, h3]
   rw [← this, e0']; rfl
 rw [hvs]
 refine (bstr_calls laySt2 extJoin hs w1 w4).mono ?_
 rintro e w' ⟨rfl, g, n, hg, rfl⟩
 refine ⟨_, _, _, _, rfl, ⟨rfl, rfl⟩, good_endBld hr hH q1 q2 ?_ ?_ ?_ ?_ ?_, .p _ _ (.str _)⟩
 ·unfold World.freeze; split <;> rfl
 ·unfold World.freeze; split <;> rfl
 ·unfold World.freeze; split <;> rfl
 ·unfold World.freeze
  split
  ·exact Nat.le_refl _
  ·show w.heap.size ≤ (Array.modify w.heap _ _).size
   rw [Array.size_modify]; exact Nat.le_refl _
 ·intro k hk hne
  have : k ≠ g := fun e => hne (by rw [← w3, hg, e])
  unfold World.freeze
  split
  ·rfl
  ·simp only [Array.getElem?_modify]
   rw [if_neg (fun e => this e.symm)]
   rfl
end Go.Proofs.YtngonbhfbpnkcaaGreatDoor.K
set_option linter.unusedVariables false
set_option linter.unusedSimpArgs false
namespace Go.Proofs.YtngonbhfbpnkcaaGreatDoor.K
open Go Go.AM Go.Proofs
set_option maxRecDepth 60000
set_option maxHeartbeats 8000000
theorem joinS_cons (x : List UInt8) (r : List (List UInt8)) (sep : List UInt8) : joinS (x :: r) sep = x ++ Lib.joinTail sep r := Lib.join_cons _ _ _
theorem joinTail_len {sep : List UInt8} {B : Nat} : ∀ (r : List (List UInt8)), (∀ s ∈ r, s.length ≤ B) → (Lib.joinTail sep r).length ≤ r.length * (B + sep.length)
 | [], _ => by simp [Lib.joinTail]
 | x :: r, h => by
  have ih := joinTail_len (sep := sep) r fun s hs => h s (by simp [hs])
  have h1 := h x (by simp)
  simp only [Lib.joinTail, List.map_cons, List.flatten_cons, List.length_append, List.length_cons, Nat.add_mul, Nat.one_mul] at *
  omega
theorem joinS_len {sep : List UInt8} {B : Nat} {xs : List (List UInt8)} (h : ∀ s ∈ xs, s.length ≤ B) : (joinS xs sep).length ≤ xs.length * (B + sep.length) := by
 cases xs with
 | nil => simp [joinS, Lib.join_nil]
 | cons x r =>
  have ih := joinTail_len (sep := sep) r fun s hs => h s (by simp [hs])
  have h1 := h x (by simp)
  rw [joinS_cons]
  simp only [List.length_append, List.length_cons, Nat.add_mul, Nat.one_mul] at *
  omega
def decS (n : Int) : List UInt8 := dec n.toNat
def okD (n : Int) : Prop := 0 ≤ n ∧ n < 100
theorem decS_len {n : Int} (h : okD n) : (decS n).length ≤ 20 := by
 obtain ⟨h0, h1⟩ := h
 by_cases h2 : n < 10
 ·rw [decS, dec_one (by omega)]; simp
 ·rw [decS, dec_two (by omega) (by omega)]; simp
theorem decimal_c (n : Int) (h : okD n) : ACalls Tryz.prog 64 [.p (.int .i64 n)] [] fun x H' => x = .p (.str (decS n)) ∧ H' = [] := by
 obtain ⟨h0, h1⟩ := h
 refine acalls_pure (fn := Tryz.f64) Tryz.func64 rfl isF64 ?_
 simp (disch := omega) only [Tryz.f64, go_sem, seval]
 have e : n = (n.toNat : Int) := by omega
 have c := itoa_c n.toNat (by omega)
 rw [← e] at c
 refine (c).use ?_
 simp (disch := omega) only [go_sem, seval]
 rfl
theorem tJoin_c (xs : List (List UInt8)) (c : Bool) (hx : xs.length ≤ 1048576) (hl : (joinS xs [32]).length ≤ 140737488355328) :
  ACalls Tryz.prog 66 [.p (.list c (xs.map strE))] [] fun y H' => y = .p (.str (joinS xs [32])) ∧ H' = [] := by
 refine acalls_pure (fn := Tryz.f66) Tryz.func66 rfl isF66 ?_
 simp (disch := omega) only [Tryz.f66, go_sem, seval]
 refine (join_c xs c [32] hx hl).use ?_
 simp (disch := omega) only [go_sem, seval]
def rtsS (l : List Bool) : List UInt8 := if l = [] then [46] else l.map fun b => if b = true then 121 else 110
def okR (l : List Bool) : Prop := l = []
theorem rests_c (l : List Bool) (c : Bool) (h : okR l) : ACalls Tryz.prog 65 [.p (.list c (l.map eB))] [] fun y H' => y = .p (.str (rtsS l)) ∧ H' = [] := by
 have : l = [] := h
 subst this
 refine acalls_pure (fn := Tryz.f65) Tryz.func65 rfl isF65 ?_
 simp (disch := omega) only [Tryz.f65, List.map_nil, go_sem, seval]
 rfl
end Go.Proofs.YtngonbhfbpnkcaaGreatDoor.K
set_option linter.unusedVariables false
set_option linter.unusedSimpArgs false
namespace Go.Proofs.YtngonbhfbpnkcaaGreatDoor.K
open Go Go.AM Go.Proofs
set_option maxRecDepth 60000
set_option maxHeartbeats 8000000
def rowHd (r : Row) : List (List UInt8) := [[114, 111, 119], decS r.rt, if r.v.drp = true then [45] else [43]]
def rowNs (r : Row) : List Int := [r.v.order, r.place, r.tm.arr, r.tm.beg, r.tm.dep]
def rowRs (r : Row) : List UInt8 := if r.tm.rest = true then [114, 101, 115, 116] else [103, 111]
def rowW1 (r : Row) (q : Nat) : List (List UInt8) := rowHd r ++ ((rowNs r).take q).map decS
def rowW2 (r : Row) (q : Nat) : List (List UInt8) := rowW1 r 5 ++ [rowRs r] ++ (r.load.take q).map decS
def lineR (r : Row) : List UInt8 := joinS (rowW2 r r.load.length) [32] ++ [10]
structure RowPr (r : Row) : Prop where
 rt : okD r.rt
 ns : ∀ n ∈ rowNs r, okD n
 load : ∀ n ∈ r.load, okD n
 len : r.load.length ≤ 64
theorem rowW1_succ {r : Row} {q : Nat} (h : q < (rowNs r).length) : rowW1 r (q + 1) = rowW1 r q ++ [decS (nth (rowNs r) q)] := by
 rw [rowW1, rowW1, List.take_succ_eq_append_getElem h, nth_get h, List.map_append, List.append_assoc]; rfl
theorem rowW2_succ {r : Row} {q : Nat} (h : q < r.load.length) : rowW2 r (q + 1) = rowW2 r q ++ [decS (nth r.load q)] := by
 rw [rowW2, rowW2, List.take_succ_eq_append_getElem h, nth_get h, List.map_append, ← List.append_assoc]; rfl
theorem rowNs_len {r : Row} : (rowNs r).length = 5 := rfl
theorem rowW1_len {r : Row} {q : Nat} (h : q ≤ 5) : (rowW1 r q).length = 3 + q := by simp [rowW1, rowHd, rowNs]; omega
theorem rowW2_len {r : Row} {q : Nat} (h : q ≤ r.load.length) : (rowW2 r q).length = 9 + q := by
 rw [rowW2, List.length_append, List.length_append, rowW1_len (Nat.le_refl 5)]; simp; omega
theorem rowW2_zero {r : Row} : rowW2 r 0 = rowW1 r 5 ++ [rowRs r] := by simp [rowW2]
def mRowO (r : Row) : AM.Obj := .cells [.p (.int .i64 r.rt), .p (.int .i64 r.v.order), .p (.bool r.v.drp), .p (.int .i64 r.place), .p (.int .i64 r.tm.arr), .p (.int .i64 r.tm.beg), .p (.int .i64 r.tm.dep), .p (.bool r.tm.rest), .p (.list r.load_c (r.load.map eI))]
theorem lineR_len {r : Row} (h : RowPr r) : (joinS (rowW2 r r.load.length) [32]).length ≤ 5000 := by
 have := joinS_len (sep := [32]) (B := 64) (xs := rowW2 r r.load.length) fun s hs => by
  simp only [rowW2, rowW1, rowHd, List.append_assoc, List.mem_append, List.mem_cons, List.not_mem_nil, or_false, List.mem_map] at hs
  rcases hs with (rfl | rfl | rfl) | ⟨n, hn, rfl⟩ | rfl | ⟨n, hn, rfl⟩
  ·simp
  ·have := decS_len h.rt; omega
  ·split <;> simp
  ·have := decS_len (h.ns n (List.mem_of_mem_take hn)); omega
  ·rw [rowRs]; split <;> simp
  ·have := decS_len (h.load n (List.mem_of_mem_take hn)); omega
 rw [rowW2_len (Nat.le_refl _)] at this
 have := h.len
 simp only [List.length_cons, List.length_nil] at *
 omega
theorem line_c (r : Row) (h : RowPr r) : ACalls Tryz.prog 57 [.p (eRow r)] [] fun y H' => y = .p (.str (lineR r)) ∧ H' = [] := by
 refine acalls_pure (fn := Tryz.f57) Tryz.func57 rfl isF57 ?_
 simp (disch := omega) only [Tryz.f57, go_sem, seval]
 have hl := h.len
 have hll := lineR_len h
 have hds : (if r.v.drp = true then ([45] : List UInt8) else [43]) = (if r.v.drp = true then [45] else [43]) := rfl
 have hhd : rowHd r = [[114, 111, 119], decS r.rt, if r.v.drp = true then [45] else [43]] := rfl
 have hrs : rowRs r = if r.tm.rest = true then [114, 101, 115, 116] else [103, 111] := rfl
 generalize hd : r.v.drp = d at *
 generalize ht : r.tm.rest = t at *
 cases d <;> cases t
 all_goals
  simp (disch := omega) only [go_sem, seval]
  refine (decimal_c r.rt h.rt).use ?_
  simp (disch := omega) only [go_sem, seval]
  refine awp_for [1, 4, 35, 36] (fun q : Nat => [(37, .p (.int .i64 q)), (5, .sl 1 0 (rowW1 r q).length (rowW1 r q).length)]) (fun q => [mRowO r, .elems 1 ((rowW1 r q).map strE), .elems 1 ((rowNs r).map eI)]) (fun q => q ≤ 5) (fun q => 5 - q) 0 (by simp) (Weak.mk ?_) ?_
  ·simp (disch := omega) only [mRowO, hd, ht, go_sem, seval]
   simp [rowW1, hhd, rowNs, strE_eq, eI_eq]
  ·intro q hq
   simp (disch := omega) only [mRowO, hd, ht, go_sem, seval]
   have hwl := rowW1_len (r := r) hq
   refine acond_b (fun h1 => ?_) (fun h1 => ?_) <;> (try simp only [decide_eq_true_eq, decide_eq_false_iff_not] at h1) <;> simp (disch := omega) only [Sh.out h1, go_sem, seval]
   ·have hq2 : q < (rowNs r).length := by rw [rowNs_len]; omega
    have hdo := h.ns _ (nth_in hq2)
    have hsn := rowW1_succ hq2
    have h5 : (rowNs r).length = 5 := rfl
    have he : elt ((rowNs r).map eI) q = eI (nth (rowNs r) q) := elt_map hq2
    generalize (nth (rowNs r) q) = n at *
    simp (disch := first | omega | (simp only [List.length_cons, List.length_nil, List.length_append, List.length_map, List.length_take, List.length_drop] <;> omega)) only [h5, go_sem, seval]
    rw [he, if_pos ⟨by omega, by simp [eI, PV.cells]⟩]
    simp (disch := omega) only [PV.cells, List.take_succ_cons, List.take_zero, List.map_cons, List.map_nil, go_sem, seval]
    refine (decimal_c n hdo).use ?_
    simp (disch := omega) only [go_sem, seval]
    refine ⟨q + 1, by omega, by omega, Weak.mk ?_⟩
    simp (disch := omega) only [mRowO, hd, ht, hsn, List.map_append, List.map_cons, List.map_nil, List.length_append, List.length_cons, List.length_nil, strE_eq, go_sem, seval]
   ·have hq5 : q = 5 := by omega
    subst hq5
    have hz := rowW2_zero (r := r)
    rw [hrs] at hz
    refine awp_for [52, 53] (fun q : Nat => [(54, .p (.int .i64 q)), (5, .sl 1 0 (rowW2 r q).length (rowW2 r q).length)]) (fun q => [mRowO r, .elems 1 ((rowW2 r q).map strE), .elems 1 ((rowNs r).map eI), .elems 1 [.str (rowRs r)]]) (fun q => q ≤ r.load.length) (fun q => r.load.length - q) 0 (by simp) (Weak.mk ?_) ?_
    ·simp (disch := omega) only [mRowO, hd, ht, hz, hrs, List.map_append, List.map_cons, List.map_nil, List.length_append, List.length_cons, List.length_nil, strE_eq, go_sem, seval]
    ·intro q hq
     simp (disch := omega) only [mRowO, hd, ht, go_sem, seval]
     have hwl := rowW2_len hq
     refine acond_b (fun h2 => ?_) (fun h2 => ?_) <;> (try simp only [decide_eq_true_eq, decide_eq_false_iff_not] at h2) <;> simp (disch := omega) only [Sh.out h2, go_sem, seval]
     ·have hq2 : q < r.load.length := by omega
      have hdo := h.load _ (nth_in hq2)
      have hsn := rowW2_succ hq2
      generalize (nth r.load q) = n at *
      refine (decimal_c n hdo).use ?_
      simp (disch := omega) only [go_sem, seval]
      refine ⟨q + 1, by omega, by omega, Weak.mk ?_⟩
      simp (disch := omega) only [mRowO, hd, ht, hsn, List.map_append, List.map_cons, List.map_nil, List.length_append, List.length_cons, List.length_nil, strE_eq, go_sem, seval]
     ·have hql : q = r.load.length := by omega
      subst hql
      refine ACalls.view (tJoin_c (rowW2 r r.load.length) false (by omega) (by omega)) (by simp [vws, vw, oat, take_map_len] <;> rfl) (by rfl) ?_
      simp (disch := omega) only [go_sem, seval]
      rw [sbin_add (by simp; omega)]
      simp (disch := omega) only [go_sem, seval]
      rw [lineR]
def prR (l : List Row) : List UInt8 := (l.map lineR).flatten
theorem mPrint_c (l : List Row) (c : Bool) (hl : l.length ≤ 64) (hne : l ≠ []) (h : ∀ r ∈ l, RowPr r) : ACalls Tryz.prog 24 [.p (.list c (l.map eRow))] [] fun y H' => y = .p (.str (prR l)) ∧ H' = [] := by
 have hll : ∀ k : Nat, (((l.take k).map lineR).flatten).length ≤ k * 5001 := fun k => by
  induction k with
  | zero => simp
  | succ k ih =>
   by_cases hk : k < l.length
   ·rw [List.take_succ_eq_append_getElem hk, List.map_append, List.flatten_append, List.length_append]
    have := lineR_len (h _ (List.getElem_mem hk))
    simp only [List.map_cons, List.map_nil, List.flatten_cons, List.flatten_nil, List.append_nil, lineR, List.length_append, List.length_cons, List.length_nil] at *
    omega
   ·rw [List.take_of_length_le (by omega)] at ih ⊢
    omega
 refine acalls_pureC [1] (fn := Tryz.f24) Tryz.func24 rfl isF24 ?_
 simp (disch := omega) only [Tryz.f24, go_sem, seval]
 refine awp_seq (awp_opS 0 rfl rfl ?_)
 simp (disch := omega) only [go_sem, seval]
 refine ⟨_, _, ops_bld 119 5 rfl (by kernel_rfl), ?_⟩
 simp (disch := omega) only [go_sem, seval]
 refine awp_sound [] _ _ _ _ ?_
 simp (disch := omega) only [go_sem, seval]
 refine awp_for [3, 6, 7] (fun k : Nat => [(8, .p (.int .i64 k))]) (fun k => [.bld 119 5 1 (((l.take k).map lineR).flatten), .dead]) (fun k => k ≤ l.length) (fun k => l.length - k) 0 (by simp) (Weak.mk ?_) ?_
 ·simp (disch := omega) only [List.take_zero, List.map_nil, List.flatten_nil, go_sem, seval]
 ·intro k hk
  simp (disch := omega) only [go_sem, seval]
  refine acond_b (fun h1 => ?_) (fun h1 => ?_) <;> (try simp only [decide_eq_true_eq, decide_eq_false_iff_not] at h1) <;> simp (disch := omega) only [Sh.out h1, go_sem, seval]
  ·have hk2 : k < l.length := by omega
   have hm := h _ (nth_in hk2)
   have hkl := hll k
   have hln := lineR_len hm
   have htk : (l.take (k + 1)).map lineR = (l.take k).map lineR ++ [lineR (nth l k)] := by rw [List.take_succ_eq_append_getElem hk2, nth_get hk2, List.map_append]; rfl
   refine (line_c (nth l k) hm).use ?_
   simp (disch := omega) only [go_sem, seval]
   refine (wstr_c (o := 0) (r := 1) rfl (lineR (nth l k)) (by simp [lineR]) (by simp only [lineR, List.length_append, List.length_cons, List.length_nil]; omega)).mono ?_
   rintro x H' ⟨rfl, rfl⟩
   simp (disch := omega) only [go_sem, seval]
   refine ⟨k + 1, by omega, by omega, Weak.mk ?_⟩
   simp (disch := omega) only [htk, List.flatten_append, List.flatten_cons, List.flatten_nil, List.append_nil, List.set_cons_succ, List.set_cons_zero, go_sem, seval]
  ·have hkl : k = l.length := by omega
   subst hkl
   rw [List.take_length]
   refine (bstr_c (o := 0) (r := 1) rfl ?_).mono ?_
   ·cases l with
    | nil => exact absurd rfl hne
    | cons a l => simp [lineR]
   ·rintro x H' ⟨rfl, rfl⟩
    simp (disch := omega) only [go_sem, seval]
    rw [prR]
end Go.Proofs.YtngonbhfbpnkcaaGreatDoor.K
set_option linter.unusedVariables false
set_option linter.unusedSimpArgs false
namespace Go.Proofs.YtngonbhfbpnkcaaGreatDoor.K
open Go Go.AM Go.Proofs
set_option maxRecDepth 60000
set_option maxHeartbeats 8000000
def samT : Typ := { name := [118], count := 1, src := 0, dst := 0, cap_c := false, cap := [5], cls := 100, drive := 100, opn := 0, rest := 0, skills := 0, fixed := 0, perMile := 0, perTick := 0, prof := 0 }
def samO : Ord := { name := [111], load_c := false, load := [1], pick := ⟨-1, 0, 0, 0⟩, drp := ⟨1, 30, 40, 2⟩, skills := 0, penalty := -1, split := 1, last := -1, now := -1, off := false }
def samA (a b : Int) : Arc := { src := a, dst := b, prof := 0, miles := 5, travel_c := false, travel := [⟨0, 10⟩], slow_c := true, slow := [] }
def samX : Inst := { net := { places_c := false, places := [[65], [66]], arcs_c := false, arcs := [samA 0 1, samA 1 0] }, types_c := false, types := [samT], orders_c := false, orders := [samO], apart_c := true, apart := [], before_c := true, before := [] }
def samP : Pln := ⟨false, [⟨0, 0, true, [], false, [⟨0, true⟩]⟩], true, []⟩
theorem samOk : InstOk samX := by
  refine ⟨⟨⟨⟨by decide, fun i hi => ?_⟩, by decide⟩, fun i hi => ?_⟩, ⟨rfl, fun i hi => ?_⟩, ordersF_nil.1 (by rfl), rfl⟩
  · match i, hi with
    | 0, _ => exact ⟨rfl, fun k hk => by omega⟩
    | 1, _ => exact ⟨rfl, fun k hk => by have : k = 0 := by omega
                                         subst this; decide⟩
  · match i, hi with
    | 0, _ => unfold arcOk ptsOk ptOk slowOk; decide
    | 1, _ => unfold arcOk ptsOk ptOk slowOk; decide
  · have : i = 0 := by simp [samX] at hi; omega
    subst this
    exact ⟨⟨⟨⟨⟨⟨⟨⟨rfl, fun j hj => by omega⟩, rfl⟩, rfl, rfl⟩, rfl⟩, rfl⟩, rfl, by decide⟩, rfl, rfl⟩, rfl, rfl, rfl, rfl⟩
theorem sam_err : errR samX samP.routes = 0 := by kernel_rfl
def samL : List Int := [0]
def samM : List Row := [⟨0, ⟨0, true⟩, 1, ⟨10, 30, 32, false⟩, false, samL⟩]
theorem sam_man : manF samX samP.routes samP.routes.length = samM := by kernel_rfl
theorem sam_at : (manF samX samP.routes samP.routes.length).filter (srvB samX 31) = samM := by kernel_rfl
theorem sam_aw1 : awN samX 31 samP.routes samP.routes.length = 0 := by kernel_rfl
theorem sam_aw2 : awN samX 41 samP.routes samP.routes.length = 1 := by kernel_rfl
theorem sam_tot : milS samX samP.routes samP.routes.length = 10 ∧ wrkS samX samP.routes samP.routes.length = 42 ∧ rstS samX samP.routes samP.routes.length = 0 := ⟨by kernel_rfl, by kernel_rfl, by kernel_rfl⟩
theorem sample58_c : ACalls Tryz.prog 47 [] [] fun y H' => y = .tup [.p (eInst samX), .p (ePln samP)] ∧ H' = [] := by
 refine acalls_weak [1, 2, 3, 4, 5] (fn := Tryz.f47) Tryz.func47 rfl isF47 ?_
 simp (disch := omega) only [Tryz.f47, go_sem, seval]
 refine awp_seq (awp_mid 1 ?_)
 simp (disch := omega) only [go_sem, seval]
 refine ⟨_, _, Weak.fz (o := 2) (by rfl), ?_⟩
 simp (disch := omega) only [List.map_cons, List.map_nil, List.set_cons_succ, List.set_cons_zero, List.cons_append, List.nil_append, go_sem, seval]
 refine awp_sound [2, 3, 4, 5] _ _ _ _ ?_
 simp (disch := omega) only [go_sem, seval]
 refine awp_seq (awp_mid2 2 3 ?_)
 simp (disch := omega) only [go_sem, seval]
 refine ⟨_, _, Weak.fz (o := 4) (by rfl), ?_⟩
 simp (disch := omega) only [List.map_cons, List.map_nil, List.set_cons_succ, List.set_cons_zero, List.cons_append, List.nil_append, go_sem, seval]
 refine ⟨_, _, Weak.fz (o := 5) (by rfl), ?_⟩
 simp (disch := omega) only [List.map_cons, List.map_nil, List.set_cons_succ, List.set_cons_zero, List.cons_append, List.nil_append, go_sem, seval]
 refine awp_sound [3, 4, 5] _ _ _ _ ?_
 simp (disch := omega) only [go_sem, seval]
 refine awp_seq (awp_mid 1 ?_)
 simp (disch := omega) only [go_sem, seval]
 refine ⟨_, _, Weak.fz (o := 7) (by rfl), ?_⟩
 simp (disch := omega) only [List.map_cons, List.map_nil, List.set_cons_succ, List.set_cons_zero, List.cons_append, List.nil_append, go_sem, seval]
 refine awp_sound [4, 5] _ _ _ _ ?_
 simp (disch := omega) only [go_sem, seval]
 refine awp_seq (awp_mid 1 ?_)
 simp (disch := omega) only [go_sem, seval]
 refine ⟨_, _, Weak.fz (o := 9) (by rfl), ?_⟩
 simp (disch := omega) only [List.map_cons, List.map_nil, List.set_cons_succ, List.set_cons_zero, List.cons_append, List.nil_append, go_sem, seval]
 refine awp_sound [5] _ _ _ _ ?_
 simp (disch := omega) only [go_sem, seval]
 refine awp_weak (Weak.fz (o := 6) (by rfl)) ?_
 refine awp_weak (Weak.fz (o := 8) (by rfl)) ?_
 refine awp_weak (Weak.fz (o := 10) (by rfl)) ?_
 refine awp_seq (awp_mid2 3 2 ?_)
 simp (disch := omega) only [List.map_cons, List.map_nil, List.set_cons_succ, List.set_cons_zero, List.cons_append, List.nil_append, go_sem, seval]
 refine ⟨_, _, Weak.fz (o := 11) (by rfl), ?_⟩
 simp (disch := omega) only [List.map_cons, List.map_nil, List.set_cons_succ, List.set_cons_zero, List.cons_append, List.nil_append, go_sem, seval]
 refine ⟨_, _, Weak.fz (o := 12) (by rfl), ?_⟩
 simp (disch := omega) only [List.map_cons, List.map_nil, List.set_cons_succ, List.set_cons_zero, List.cons_append, List.nil_append, go_sem, seval]
 refine awp_sound [] _ _ _ _ ?_
 simp (disch := omega) only [go_sem, seval]
 exact ⟨_, _, Weak.mk (by simp (disch := omega) only [samX, samP, samT, samO, samA, List.map_cons, List.map_nil, go_sem, seval]), rfl, rfl⟩
end Go.Proofs.YtngonbhfbpnkcaaGreatDoor.K
set_option linter.unusedVariables false
set_option linter.unusedSimpArgs false
namespace Go.Proofs.YtngonbhfbpnkcaaGreatDoor.K
open Go Go.AM Go.Proofs
set_option maxRecDepth 60000
set_option maxHeartbeats 8000000
theorem useT4 {g : FuncId} {args : List V} {a b c d : PV} {H : List AM.Obj} {K : V → List AM.Obj → Prop} (h : ACalls Tryz.prog g args [] fun x H' => x = .tup [.p a, .p b, .p c, .p d] ∧ H' = []) (k : K (.tup [.p a, .p b, .p c, .p d]) H) (ha : refBs 0 args = true := by rfl) : ACalls Tryz.prog g args H K :=
 (h.behind ha H).mono fun x H' hq => by
  obtain ⟨y, H1, ⟨rfl, rfl⟩, rfl, rfl⟩ := hq
  simpa [shV, shVs] using k
def samR : List Row := [⟨0, ⟨2, true⟩, 1, ⟨10, 30, 32, false⟩, false, [4, 0]⟩]
theorem samR_pr : prR samR = [114, 111, 119, 32, 48, 32, 45, 32, 50, 32, 49, 32, 49, 48, 32, 51, 48, 32, 51, 50, 32, 103, 111, 32, 52, 32, 48, 10] := by kernel_rfl
theorem samR_ok : ∀ r ∈ samR, RowPr r := fun r hr => by
 simp only [samR, List.mem_cons, List.not_mem_nil, or_false] at hr
 subst hr
 refine ⟨⟨by decide, by decide⟩, fun n hn => ?_, fun n hn => ?_, by decide⟩
 ·simp only [rowNs, List.mem_cons, List.not_mem_nil, or_false] at hn
  rcases hn with rfl | rfl | rfl | rfl | rfl <;> exact ⟨by decide, by decide⟩
 ·simp only [List.mem_cons, List.not_mem_nil, or_false] at hn
  rcases hn with rfl | rfl <;> exact ⟨by decide, by decide⟩
theorem samB : ∀ r ∈ samP.routes, rteB r := fun r hr => by
 simp only [samP, List.mem_cons, List.not_mem_nil, or_false] at hr
 subst hr; exact ⟨by decide, by decide⟩
theorem ex58_c : ACalls Tryz.prog 15 [] [] fun y H' => y = .p (.bool true) ∧ H' = [] := by
 have hl : samP.routes.length ≤ 1048576 := by decide
 have cR := mRows_c samX samP samOk hl samB
 rw [manT, if_pos sam_err, sam_man] at cR
 have cA := mAt_c samX samP 31 samOk hl samB
 rw [atT, if_neg (by omega), if_pos sam_err, sam_at, sam_aw1] at cA
 have cB := mAt_c samX samP 41 samOk hl samB
 rw [atT, if_neg (by omega), if_pos sam_err, sam_aw2] at cB
 have cT := mTotals_c samX samP samOk hl samB
 rw [totT, if_pos sam_err, sam_tot.1, sam_tot.2.1, sam_tot.2.2] at cT
 refine acalls_weak [8] (fn := Tryz.f15) Tryz.func15 rfl isF15 ?_
 simp (disch := omega) only [Tryz.f15, go_sem, seval]
 refine useT' sample58_c ?_
 simp (disch := omega) only [go_sem, seval]
 refine useT' cR ?_
 simp (disch := omega) only [go_sem, seval]
 refine useT3' cA ?_
 simp (disch := omega) only [go_sem, seval]
 refine useT3' cB ?_
 simp (disch := omega) only [go_sem, seval]
 refine useT4 cT ?_
 have hM1 : samM.length = 1 := rfl
 have hM2 : nth samM 0 = ⟨0, ⟨0, true⟩, 1, ⟨10, 30, 32, false⟩, false, samL⟩ := rfl
 have hM3 : samL.length = 1 := rfl
 have hM4 : nth samL 0 = 0 := rfl
 simp (disch := omega) only [hM1, go_sem, seval]
 refine awp_seq (awp_mid2 3 2 ?_)
 simp (disch := omega) only [go_sem, seval]
 refine ⟨_, _, Weak.fz (o := 2) (by rfl), ?_⟩
 simp (disch := omega) only [List.map_cons, List.map_nil, List.set_cons_succ, List.set_cons_zero, List.cons_append, List.nil_append, go_sem, seval]
 refine ⟨_, _, Weak.fz (o := 3) (by rfl), ?_⟩
 simp (disch := omega) only [List.map_cons, List.map_nil, List.set_cons_succ, List.set_cons_zero, List.cons_append, List.nil_append, go_sem, seval]
 refine (mPrint_c samR false (by decide) (by simp [samR]) samR_ok).use ?_
 rw [samR_pr]
 simp (disch := omega) only [decide_true, hM1, hM2, hM3, hM4, go_sem, seval]
 refine awp_sound [] _ _ _ _ ?_
 simp (disch := omega) only [go_sem, seval]
 exact ⟨_, _, Weak.mk (by simp (disch := omega) only [go_sem, seval]), rfl, rfl⟩
end Go.Proofs.YtngonbhfbpnkcaaGreatDoor.K
set_option linter.unusedVariables false
set_option linter.unusedSimpArgs false
namespace Go.Proofs.YtngonbhfbpnkcaaGreatDoor.K
open Go Go.AM Go.Proofs
set_option maxRecDepth 60000
set_option maxHeartbeats 8000000
theorem few58_c (x : Inst) (hw : x.wf 1048576) (p : Pln) (hp : p.wf 1048576) : ACalls Tryz.prog 14 [.p (eInst x), .p (ePln p)] [] fun y H' => ∃ b : Bool, (b = true → InstOk x ∧ p.routes.length ≤ 6) ∧ y = .p (.bool b) ∧ H' = [] := by
 have hr := hp.1
 have hv := pln_rte hp
 refine ACalls.pureE (acalls_of (fn := Tryz.f14) Tryz.func14 rfl isF14 (awp_sound [] _ _ _ _ ?_))
 simp (disch := omega) only [Tryz.f14, go_sem, seval]
 refine acond_b (fun h1 => ?_) (fun h1 => ?_) <;> (try simp only [decide_eq_true_eq, decide_eq_false_iff_not] at h1) <;> simp (disch := omega) only [Sh.out h1, go_sem, seval]
 ·exact ⟨false, by simp, rfl⟩
 ·refine awp_for [2, 12, 13] (fun k : Nat => [(14, .p (.int .i64 k))]) (fun _ => [instO x, plnO p]) (fun k => k ≤ p.routes.length) (fun k => p.routes.length - k) 0 (by simp) (Weak.mk ?_) ?_
  ·simp (disch := omega) only [instO, plnO, go_sem, seval]
  ·intro k hk
   simp (disch := omega) only [instO, plnO, go_sem, seval]
   refine acond_b (fun h3 => ?_) (fun h3 => ?_) <;> (try simp only [decide_eq_true_eq, decide_eq_false_iff_not] at h3) <;> simp (disch := omega) only [Sh.out h3, go_sem, seval]
   ·have hk2 : k < p.routes.length := by omega
    obtain ⟨w1, w2⟩ := hv _ (nth_in hk2)
    refine aguard_t (fun h4 => ?_) (fun h4 => ?_) <;> (try simp only [decide_eq_true_eq, decide_eq_false_iff_not] at h4) <;> simp (disch := omega) only [Sh.out h4, go_sem, seval]
    ·refine acond_b (fun h5 => ?_) (fun h5 => ?_) <;> (try simp only [decide_eq_true_eq, decide_eq_false_iff_not] at h5) <;> simp (disch := omega) only [Sh.out h5, go_sem, seval]
     ·exact ⟨false, by simp, rfl⟩
     ·exact ⟨k + 1, by omega, by omega, Weak.mk (by simp (disch := omega) only [instO, plnO, go_sem, seval])⟩
    ·exact ⟨k + 1, by omega, by omega, Weak.mk (by simp (disch := omega) only [instO, plnO, go_sem, seval])⟩
   ·refine ((ck13_c x hw).frozenE).useV fun m hm => ?_
    simp (disch := omega) only [go_sem, seval]
    refine ⟨_, fun hb => ⟨hm.emp.1 (List.length_eq_zero_iff.1 ?_), by omega⟩, rfl⟩
    simpa using hb
theorem plain_c (l : List Row) (c : Bool) (hl : l.length ≤ 1073741824) : ACalls Tryz.prog 19 [.p (.list c (l.map eRow))] [] fun y H' => y = .p (.list false (l.map eRow)) ∧ H' = [] := by
 refine acalls_weak [2, 7] (fn := Tryz.f19) Tryz.func19 rfl isF19 ?_
 simp (disch := omega) only [Tryz.f19, go_sem, seval]
 refine awp_weak (Weak.nil 3 9 (by rfl) (by simp)) ?_
 refine awp_sound [7] _ _ _ _ ?_
 simp (disch := omega) only [List.set_cons_succ, List.set_cons_zero, List.cons_append, List.nil_append, List.length_cons, List.length_nil, go_sem, seval]
 refine awp_for [6, 7] (fun k : Nat => [(3, .sl 0 0 k k), (8, .p (.int .i64 k))]) (fun k => [.elems 9 ((l.take k).map eRow)]) (fun k => k ≤ l.length) (fun k => l.length - k) 0 (by simp) (Weak.mk ?_) ?_
 ·simp (disch := omega) only [List.take_zero, List.map_nil, go_sem, seval]
 ·intro k hk
  simp (disch := omega) only [go_sem, seval]
  refine acond_b (fun h1 => ?_) (fun h1 => ?_) <;> (try simp only [decide_eq_true_eq, decide_eq_false_iff_not] at h1) <;> simp (disch := omega) only [Sh.out h1, go_sem, seval]
  ·have hk2 : k < l.length := by omega
   have ht : l.take (k + 1) = l.take k ++ [nth l k] := by rw [List.take_succ_eq_append_getElem hk2, nth_get hk2]
   have htl : (l.take k).length = k := by simp; omega
   simp (disch := omega) only [htl, go_sem, seval]
   rw [if_pos ⟨by omega, by omega⟩]
   simp (disch := omega) only [go_sem, seval]
   refine ⟨k + 1, by omega, by omega, Weak.mk ?_⟩
   simp (disch := omega) only [ht, htl, List.map_append, List.map_cons, List.map_nil, List.length_append, List.length_cons, List.length_nil, go_sem, seval]
  ·have hkl : k = l.length := by omega
   subst hkl
   rw [List.take_length]
   refine awp_weak (Weak.fz (o := 0) (by rfl)) ?_
   refine awp_sound [] _ _ _ _ ?_
   simp (disch := omega) only [List.map_cons, List.map_nil, List.set_cons_succ, List.set_cons_zero, List.length_map, eq_self, go_sem, seval]
   exact ⟨_, _, Weak.mk (by simp (disch := omega) only [go_sem, seval]), rfl, rfl⟩
theorem same58_c (l : List Row) (c d : Bool) (hl : l.length ≤ 1073741824) (hb : ∀ r ∈ l, r.load.length ≤ 1048576) :
  ACalls Tryz.prog 18 [.p (.list c (l.map eRow)), .p (.list d (l.map eRow))] [] fun y H' => y = .p (.bool true) ∧ H' = [] := by
 refine acalls_pure (fn := Tryz.f18) Tryz.func18 rfl isF18 ?_
 simp (disch := omega) only [Tryz.f18, go_sem, seval]
 refine awp_for [0, 1] (fun k : Nat => [(5, .p (.int .i64 k))]) (fun _ => []) (fun k => k ≤ l.length) (fun k => l.length - k) 0 (by simp) (Weak.mk ?_) ?_
 ·simp (disch := omega) only [go_sem, seval]
 ·intro k hk
  simp (disch := omega) only [go_sem, seval]
  refine acond_b (fun h1 => ?_) (fun h1 => ?_) <;> (try simp only [decide_eq_true_eq, decide_eq_false_iff_not] at h1) <;> simp (disch := omega) only [Sh.out h1, go_sem, seval]
  ·have hk2 : k < l.length := by omega
   have hbk := hb _ (nth_in hk2)
   generalize hrr : nth l k = r at hbk ⊢
   refine awp_drawnA mixed (by kernel_rfl) (by kernel_rfl) ?_
   simp (maxSteps := 3000000) (disch := omega) only [decide_true, Bool.not_true, go_sem, seval]
   refine awp_for [0, 1, 5] (fun q : Nat => [(6, .p (.int .i64 q))]) (fun _ => []) (fun q => q ≤ r.load.length) (fun q => r.load.length - q) 0 (by simp) (Weak.mk ?_) ?_
   ·simp (disch := omega) only [go_sem, seval]
   ·intro q hq
    simp (disch := omega) only [hrr, go_sem, seval]
    refine acond_b (fun h2 => ?_) (fun h2 => ?_) <;> (try simp only [decide_eq_true_eq, decide_eq_false_iff_not] at h2) <;> simp (disch := omega) only [Sh.out h2, go_sem, seval]
    ·have hq2 : q < r.load.length := by omega
     refine awp_drawnA mixed (by kernel_rfl) (by kernel_rfl) ?_
     simp (disch := omega) only [hrr, go_sem, seval]
     exact ⟨q + 1, by omega, by omega, Weak.mk (by simp (disch := omega) only [go_sem, seval])⟩
    ·exact ⟨k + 1, by omega, by omega, Weak.mk (by simp (disch := omega) only [go_sem, seval])⟩
end Go.Proofs.YtngonbhfbpnkcaaGreatDoor.K
set_option linter.unusedVariables false
set_option linter.unusedSimpArgs false
namespace Go.Proofs.YtngonbhfbpnkcaaGreatDoor.K
open Go Go.AM Go.Proofs
set_option maxRecDepth 60000
set_option maxHeartbeats 8000000
theorem man_load {x : Inst} {l : List Rte} {n : Nat} (hx : InstOk x) : ∀ r ∈ manF x l n, r.load.length ≤ 1048576 := fun r hr => by
 simp only [manF, List.mem_flatten, List.mem_map, List.mem_range] at hr
 obtain ⟨m, ⟨i, hi, rfl⟩, hm⟩ := hr
 simp only [mrowsF, List.mem_map, List.mem_range] at hm
 obtain ⟨q, hq, rfl⟩ := hm
 have hl := lodsF_len (x := x) (l := (nth l i).visits)
 have hd := (ldOk_of hx).dim
 have e : nth (lodsF x (nth l i).visits) (q + 1) = aftF x (nth l i).visits (q + 1) := by
  rw [nth_get (by omega)]; simp [lodsF]
 simp only [mrowF]
 rw [e, aftF_len]; omega
theorem man_six {x : Inst} {l : List Rte} (hl : l.length ≤ 6) (hb : ∀ r ∈ l, rteB r) : (manF x l l.length).length ≤ 6291456 := by
 have := manF_len (x := x) (l := l) (k := l.length) (B := 1048576) fun i hi => (hb _ (nth_in hi)).1
 omega
theorem lawMRows_c (x : Inst) (hw : x.wf 1048576) (p : Pln) (hp : p.wf 1048576) :
  ACalls Tryz.prog 3 [.p (eInst x), .p (ePln p)] [] fun y H' => y = .p (.bool true) ∧ H' = [] := by
 have hr := hp.1
 have hb := pln_rte hp
 refine acalls_pureC [] (fn := Tryz.f3) Tryz.func3 rfl isF3 ?_
 simp (disch := omega) only [Tryz.f3, go_sem, seval]
 refine (few58_c x hw p hp).useV fun b hbf => ?_
 simp (disch := omega) only [go_sem, seval]
 refine acond_b (fun h2 => ?_) (fun h2 => ?_) <;> (try simp only [decide_eq_true_eq, decide_eq_false_iff_not] at h2) <;> simp (disch := omega) only [Sh.out h2, go_sem, seval]
 ·refine (ex58_c).use ?_
  simp (disch := omega) only [go_sem, seval]
 ·obtain ⟨hx, h6⟩ := hbf (by simpa using h2)
  have c1 := mRows_c x p hx hr hb
  have c2 := rRows_c x p hx hr hb
  unfold manT at c1 c2
  by_cases h0 : errR x p.routes = 0
  ·rw [if_pos h0] at c1 c2
   have hml := man_six (x := x) h6 hb
   refine useT' c1 ?_
   simp (disch := omega) only [go_sem, seval]
   refine useT' c2 ?_
   simp (disch := omega) only [decide_true, go_sem, seval]
   refine (plain_c (manF x p.routes p.routes.length) false (by omega)).use ?_
   simp (disch := omega) only [go_sem, seval]
   refine (same58_c (manF x p.routes p.routes.length) false false (by omega) (man_load hx)).use ?_
   simp (disch := omega) only [go_sem, seval]
   refine (ex58_c).use ?_
   simp (disch := omega) only [go_sem, seval]
  ·rw [if_neg h0] at c1 c2
   refine useT' c1 ?_
   simp (disch := omega) only [go_sem, seval]
   refine useT' c2 ?_
   simp (disch := omega) only [decide_true, go_sem, seval]
   refine (plain_c [] true (by simp)).use ?_
   simp (disch := omega) only [go_sem, seval]
   refine (same58_c [] false true (by simp) (by simp)).use ?_
   simp (disch := omega) only [go_sem, seval]
   refine (ex58_c).use ?_
   simp (disch := omega) only [go_sem, seval]
theorem lawMTotals_c (x : Inst) (hw : x.wf 1048576) (p : Pln) (hp : p.wf 1048576) :
  ACalls Tryz.prog 5 [.p (eInst x), .p (ePln p)] [] fun y H' => y = .p (.bool true) ∧ H' = [] := by
 have hr := hp.1
 have hb := pln_rte hp
 refine acalls_pureC [] (fn := Tryz.f5) Tryz.func5 rfl isF5 ?_
 simp (disch := omega) only [Tryz.f5, go_sem, seval]
 refine (few58_c x hw p hp).useV fun b hbf => ?_
 simp (disch := omega) only [go_sem, seval]
 refine acond_b (fun h2 => ?_) (fun h2 => ?_) <;> (try simp only [decide_eq_true_eq, decide_eq_false_iff_not] at h2) <;> simp (disch := omega) only [Sh.out h2, go_sem, seval]
 ·refine (ex58_c).use ?_
  simp (disch := omega) only [go_sem, seval]
 ·obtain ⟨hx, h6⟩ := hbf (by simpa using h2)
  have c1 := mTotals_c x p hx hr hb
  have c2 := rTotals_c x p hx hr hb
  unfold totT at c1 c2
  by_cases h0 : errR x p.routes = 0
  ·rw [if_pos h0] at c1 c2
   refine useT4 c1 ?_
   simp (disch := omega) only [go_sem, seval]
   refine useT4 c2 ?_
   simp (disch := omega) only [decide_true, go_sem, seval]
   refine (ex58_c).use ?_
   simp (disch := omega) only [go_sem, seval]
  ·rw [if_neg h0] at c1 c2
   refine useT4 c1 ?_
   simp (disch := omega) only [go_sem, seval]
   refine useT4 c2 ?_
   simp (disch := omega) only [decide_true, go_sem, seval]
   refine (ex58_c).use ?_
   simp (disch := omega) only [go_sem, seval]
theorem lawMTicks0_c (x : Inst) (hw : x.wf 1048576) (p : Pln) (hp : p.wf 1048576) (now : Int)
  (hone : InstOk x → errR x p.routes = 0 → (((manF x p.routes p.routes.length).filter (srvB x now)).length : Int) + awN x now p.routes p.routes.length ≤ (p.routes.length : Int)) :
  ACalls Tryz.prog 4 [.p (eInst x), .p (ePln p), .p (.int .i64 now)] [] fun y H' => y = .p (.bool true) ∧ H' = [] := by
 have hr := hp.1
 have hb := pln_rte hp
 have h00 : decide ((0 : Int) ≤ (p.routes.length : Int)) = true := decide_eq_true (by omega)
 refine acalls_pureC [] (fn := Tryz.f4) Tryz.func4 rfl isF4 ?_
 simp (disch := omega) only [Tryz.f4, go_sem, seval]
 refine (few58_c x hw p hp).useV fun b hbf => ?_
 simp (disch := omega) only [go_sem, seval]
 refine acond_b (fun h2 => ?_) (fun h2 => ?_) <;> (try simp only [decide_eq_true_eq, decide_eq_false_iff_not] at h2) <;> simp (disch := omega) only [Sh.out h2, go_sem, seval]
 ·refine (ex58_c).use ?_
  simp (disch := omega) only [go_sem, seval]
 ·obtain ⟨hx, h6⟩ := hbf (by simpa using h2)
  have c1 := mAt_c x p now hx hr hb
  have c2 := rAt_c x p now hx hr hb
  unfold atT at c1 c2
  by_cases hn : now < 0 ∨ 4096 < now
  ·rw [if_pos hn] at c1 c2
   refine useT3' c1 ?_
   simp (disch := omega) only [go_sem, seval]
   refine useT3' c2 ?_
   simp (disch := omega) only [decide_true, go_sem, seval]
   refine (plain_c [] true (by simp)).use ?_
   simp (disch := omega) only [go_sem, seval]
   refine (same58_c [] false true (by simp) (by simp)).use ?_
   simp (disch := omega) only [h00, go_sem, seval]
   refine (ex58_c).use ?_
   simp (disch := omega) only [go_sem, seval]
  ·rw [if_neg hn] at c1 c2
   by_cases h0 : errR x p.routes = 0
   ·rw [if_pos h0] at c1 c2
    have hml := man_six (x := x) h6 hb
    have hfl := List.length_filter_le (srvB x now) (manF x p.routes p.routes.length)
    have haw := awN_rng (x := x) (now := now) (l := p.routes) p.routes.length
    have h01 := decide_eq_true (hone hx h0)
    have hld : ∀ r ∈ (manF x p.routes p.routes.length).filter (srvB x now), r.load.length ≤ 1048576 := fun r hr => man_load hx r (List.mem_filter.1 hr).1
    generalize (manF x p.routes p.routes.length).filter (srvB x now) = m at *
    generalize awN x now p.routes p.routes.length = a at *
    refine useT3' c1 ?_
    simp (disch := omega) only [go_sem, seval]
    refine useT3' c2 ?_
    simp (disch := omega) only [decide_true, go_sem, seval]
    refine (plain_c m false (by omega)).use ?_
    simp (disch := omega) only [go_sem, seval]
    refine (same58_c m false false (by omega) hld).use ?_
    simp (disch := omega) only [h01, go_sem, seval]
    refine (ex58_c).use ?_
    simp (disch := omega) only [go_sem, seval]
   ·rw [if_neg h0] at c1 c2
    refine useT3' c1 ?_
    simp (disch := omega) only [go_sem, seval]
    refine useT3' c2 ?_
    simp (disch := omega) only [decide_true, go_sem, seval]
    refine (plain_c [] true (by simp)).use ?_
    simp (disch := omega) only [go_sem, seval]
    refine (same58_c [] false true (by simp) (by simp)).use ?_
    simp (disch := omega) only [h00, go_sem, seval]
    refine (ex58_c).use ?_
    simp (disch := omega) only [go_sem, seval]
end Go.Proofs.YtngonbhfbpnkcaaGreatDoor.K
set_option linter.unusedVariables false
set_option linter.unusedSimpArgs false
namespace Go.Proofs.YtngonbhfbpnkcaaGreatDoor.K
open Go Go.AM Go.Proofs
set_option maxRecDepth 60000
set_option maxHeartbeats 8000000
def oneB : Bool → Nat
 | true => 1
 | false => 0
theorem oneB_le {b : Bool} : oneB b ≤ 1 := by cases b <;> simp [oneB]
theorem oneB_pos {b : Bool} (h : 0 < oneB b) : b = true := by cases b <;> simp_all [oneB]
theorem tick_drop {x : Inst} {i : Nat} {r : Rte} {now : Int} (hx : InstOk x) (h : evalE x r = 0) : ∀ j k, k + j = r.visits.length →
  (((mrowsF x i r r.visits.length).drop k).filter (srvB x now)).length + oneB (awayL now (evalS x r).fin (pdep (evalS x r) k) ((evalS x r).times.drop k)) ≤ 1 ∧
  (0 < (((mrowsF x i r r.visits.length).drop k).filter (srvB x now)).length + oneB (awayL now (evalS x r).fin (pdep (evalS x r) k) ((evalS x r).times.drop k)) → pdep (evalS x r) k ≤ now)
 | 0, k, e => by
  have hl := evalS_len h
  rw [List.drop_eq_nil_of_le (by rw [mrowsF_len]; omega), List.drop_eq_nil_of_le (by omega)]
  simp only [List.filter_nil, List.length_nil, awayL, Nat.zero_add]
  refine ⟨oneB_le, fun hp => ?_⟩
  have hc := oneB_pos hp
  simp only [Bool.and_eq_true, decide_eq_true_eq] at hc
  exact hc.1
 | j + 1, k, e => by
  have hk : k < r.visits.length := by omega
  have hl := evalS_len h
  have hsl : (stopsF x r.visits).length = r.visits.length := stopsF_len
  obtain ⟨i1, i2⟩ := tick_drop (i := i) (now := now) hx h j (k + 1) (by omega)
  have hs := eval_she hx h
  obtain ⟨s1, s2⟩ := hs.seg k (by omega)
  have s3 := hs.dep k (by omega)
  have hro := mrow_ok (i := i) hx h hk
  have hsv : nth (stopsF x r.visits) k = stopV x (nth r.visits k) := stopsF_at hk
  rw [hsv] at s3
  have hrv := hro.srv
  have hml : (mrowsF x i r r.visits.length).length = r.visits.length := mrowsF_len
  have hmk : nth (mrowsF x i r r.visits.length) k = mrowF x i r k := by
   rw [nth_get (by omega)]; simp [mrowsF]
  rw [List.drop_eq_getElem_cons (show k < (mrowsF x i r r.visits.length).length by omega), ← nth_get (show k < (mrowsF x i r r.visits.length).length by omega), hmk, awayL_at (show k < (evalS x r).times.length by omega), List.filter_cons]
  rw [pdep_succ] at i1 i2
  generalize ((mrowsF x i r r.visits.length).drop (k + 1)).filter (srvB x now) = A at *
  generalize awayL now (evalS x r).fin (nth (evalS x r).times k).dep ((evalS x r).times.drop (k + 1)) = B at *
  have hv : (mrowF x i r k).v = nth r.visits k := rfl
  rw [hv] at hrv
  have hsb : srvB x now (mrowF x i r k) = (decide ((nth (evalS x r).times k).beg ≤ now) && decide (now < (nth (evalS x r).times k).beg + (stopV x (nth r.visits k)).serv)) := rfl
  rw [hsb]
  generalize (nth (evalS x r).times k).beg = be at *
  generalize (nth (evalS x r).times k).arr = ar at *
  generalize (nth (evalS x r).times k).dep = de at *
  generalize pdep (evalS x r) k = pd at *
  generalize (stopV x (nth r.visits k)).serv = se at *
  by_cases c1 : be ≤ now ∧ now < be + se
  ·rw [if_pos (by simp; omega)]
   have c2 : (decide (pd ≤ now) && decide (now < ar)) = false := by
    rw [show decide (now < ar) = false from decide_eq_false (by omega), Bool.and_false]
   rw [c2, Bool.false_or, List.length_cons]
   refine ⟨?_, fun _ => by omega⟩
   rcases Nat.eq_zero_or_pos (A.length + oneB B) with hz | hz
   ·omega
   ·have := i2 hz; omega
  ·rw [if_neg (by simp; omega)]
   by_cases c2 : pd ≤ now ∧ now < ar
   ·rw [decide_eq_true c2.1, decide_eq_true c2.2, Bool.true_and, Bool.true_or]
    have h1 : oneB true = 1 := rfl
    rw [h1]
    refine ⟨?_, fun _ => c2.1⟩
    rcases Nat.eq_zero_or_pos (A.length + oneB B) with hz | hz
    ·omega
    ·have := i2 hz; omega
   ·have c3 : (decide (pd ≤ now) && decide (now < ar)) = false := by
     rw [Bool.and_eq_false_iff, decide_eq_false_iff_not, decide_eq_false_iff_not]; omega
    rw [c3, Bool.false_or]
    exact ⟨i1, fun hp => by have := i2 hp; omega⟩
theorem tick_man {x : Inst} {l : List Rte} {now : Int} (hx : InstOk x) : ∀ k, (∀ j, j < k → evalE x (nth l j) = 0) → (((manF x l k).filter (srvB x now)).length : Int) + awN x now l k ≤ (k : Int)
 | 0, _ => by simp [manF, awN]
 | k + 1, hz => by
  have ih := tick_man (now := now) hx k fun j hj => hz j (by omega)
  obtain ⟨t, _⟩ := tick_drop (i := k) (now := now) hx (hz k (by omega)) _ 0 (Nat.zero_add _)
  rw [List.drop_zero, List.drop_zero] at t
  rw [manF_succ, List.filter_append, List.length_append, awN]
  have e : awayS (evalS x (nth l k)) now = awayL now (evalS x (nth l k)).fin (pdep (evalS x (nth l k)) 0) (evalS x (nth l k)).times := rfl
  rw [e]
  cases hc : awayL now (evalS x (nth l k)).fin (pdep (evalS x (nth l k)) 0) (evalS x (nth l k)).times with
  | true => rw [hc, show oneB true = 1 from rfl] at t; rw [if_pos rfl]; omega
  | false => rw [hc, show oneB false = 0 from rfl] at t; rw [if_neg (by simp)]; omega
theorem lawMTicks_c (x : Inst) (hw : x.wf 1048576) (p : Pln) (hp : p.wf 1048576) (now : Int) :
  ACalls Tryz.prog 4 [.p (eInst x), .p (ePln p), .p (.int .i64 now)] [] fun y H' => y = .p (.bool true) ∧ H' = [] :=
 lawMTicks0_c x hw p hp now fun hx h0 => tick_man hx _ fun j hj => errR_iff.1 h0 _ (nth_in hj)
end Go.Proofs.YtngonbhfbpnkcaaGreatDoor.K
set_option linter.unusedVariables false
set_option linter.unusedSimpArgs false
namespace Go.Proofs.YtngonbhfbpnkcaaGreatDoor.K
open Go Go.AM Go.Proofs
set_option maxRecDepth 60000
set_option maxHeartbeats 8000000
theorem nth_app {α : Type} [Inhabited α] {a b : List α} {j : Nat} (h : j < a.length) : nth (a ++ b) j = nth a j := by
 unfold nth
 rw [List.getD_eq_getElem?_getD, List.getD_eq_getElem?_getD, List.getElem?_append_left h]
theorem nth_app2 {α : Type} [Inhabited α] {a b : List α} {j : Nat} : nth (a ++ b) (a.length + j) = nth b j := by
 unfold nth
 rw [List.getD_eq_getElem?_getD, List.getD_eq_getElem?_getD, List.getElem?_append_right (by omega)]
 congr 2; omega
theorem man_pre {x : Inst} {l : List Rte} {i : Nat} : ∀ d, ∃ t, manF x l (i + d) = manF x l i ++ t
 | 0 => ⟨[], by simp⟩
 | d + 1 => by
  obtain ⟨t, ht⟩ := man_pre (x := x) (l := l) (i := i) d
  exact ⟨t ++ mrowsF x (i + d) (nth l (i + d)) (nth l (i + d)).visits.length, by rw [← Nat.add_assoc, manF_succ, ht, List.append_assoc]⟩
theorem man_at {x : Inst} {l : List Rte} {i n q : Nat} (hi : i < n) (hq : q < (nth l i).visits.length) : (manF x l i).length + q < (manF x l n).length ∧ nth (manF x l n) ((manF x l i).length + q) = mrowF x i (nth l i) q := by
 obtain ⟨t, ht⟩ := man_pre (x := x) (l := l) (i := i + 1) (n - (i + 1))
 rw [show i + 1 + (n - (i + 1)) = n by omega, manF_succ, List.append_assoc] at ht
 rw [ht]
 have hl := mrowsF_len (x := x) (i := i) (r := nth l i) (k := (nth l i).visits.length)
 refine ⟨by simp only [List.length_append]; omega, ?_⟩
 rw [nth_app2, nth_app (by omega), nth_get (by omega)]
 simp [mrowsF]
def lastD (s : She) : Nat → Int
 | 0 => 0
 | q + 1 => (nth s.times q).dep
theorem lawMOrder_c (x : Inst) (hw : x.wf 1048576) (p : Pln) (hp : p.wf 1048576) :
  ACalls Tryz.prog 6 [.p (eInst x), .p (ePln p)] [] fun y H' => y = .p (.bool true) ∧ H' = [] := by
 have hr := hp.1
 have hb := pln_rte hp
 refine acalls_pureC [] (fn := Tryz.f6) Tryz.func6 rfl isF6 ?_
 simp (disch := omega) only [Tryz.f6, go_sem, seval]
 refine (few58_c x hw p hp).useV fun b hbf => ?_
 simp (disch := omega) only [go_sem, seval]
 refine acond_b (fun h2 => ?_) (fun h2 => ?_) <;> (try simp only [decide_eq_true_eq, decide_eq_false_iff_not] at h2) <;> simp (disch := omega) only [Sh.out h2, go_sem, seval]
 ·refine (ex58_c).use ?_
  simp (disch := omega) only [go_sem, seval]
 ·obtain ⟨hx, h6⟩ := hbf (by simpa using h2)
  have c1 := mRows_c x p hx hr hb
  unfold manT at c1
  by_cases h0 : errR x p.routes = 0
  ·rw [if_pos h0] at c1
   have hml := man_six (x := x) h6 hb
   refine useT' c1 ?_
   simp (disch := omega) only [go_sem, seval]
   refine awp_for [5, 33, 34] (fun k : Nat => [(7, .p (.int .i64 (manF x p.routes k).length)), (35, .p (.int .i64 k))]) (fun _ => [instO x, plnO p]) (fun k => k ≤ p.routes.length) (fun k => p.routes.length - k) 0 (by simp) (Weak.mk ?_) ?_
   ·simp (disch := omega) only [instO, plnO, manF, List.range_zero, List.map_nil, List.flatten_nil, List.length_nil, go_sem, seval]
   ·intro k hk
    simp (disch := omega) only [instO, plnO, go_sem, seval]
    refine acond_b (fun h3 => ?_) (fun h3 => ?_) <;> (try simp only [decide_eq_true_eq, decide_eq_false_iff_not] at h3) <;> simp (disch := omega) only [Sh.out h3, go_sem, seval]
    ·have hk2 : k < p.routes.length := by omega
     obtain ⟨w1, w2⟩ := hb _ (nth_in hk2)
     have h00 := errR_iff.1 h0 _ (nth_in hk2)
     have hs := eval_she hx h00
     have hms := manF_succ (x := x) (l := p.routes) (k := k)
     have hrl := mrowsF_len (x := x) (i := k) (r := nth p.routes k) (k := (nth p.routes k).visits.length)
     refine awp_for [5, 8, 33, 34, 35, 41, 42] (fun q : Nat => [(7, .p (.int .i64 ((manF x p.routes k).length + q : Nat))), (10, .p (.int .i64 (lastD (evalS x (nth p.routes k)) q))), (43, .p (.int .i64 q))]) (fun _ => [instO x, plnO p, mRte (nth p.routes k)]) (fun q => q ≤ (nth p.routes k).visits.length) (fun q => (nth p.routes k).visits.length - q) 0 (by simp) (Weak.mk ?_) ?_
     ·simp (disch := omega) only [instO, plnO, mRte, lastD, Nat.add_zero, go_sem, seval]
     ·intro q hq
      simp (disch := omega) only [instO, plnO, mRte, go_sem, seval]
      refine acond_b (fun h4 => ?_) (fun h4 => ?_) <;> (try simp only [decide_eq_true_eq, decide_eq_false_iff_not] at h4) <;> simp (disch := omega) only [Sh.out h4, go_sem, seval]
      ·have hq2 : q < (nth p.routes k).visits.length := by omega
       obtain ⟨a1, a2⟩ := man_at (x := x) hk2 hq2
       have hsl : (stopsF x (nth p.routes k).visits).length = (nth p.routes k).visits.length := stopsF_len
       obtain ⟨s1, s2⟩ := hs.seg q (by omega)
       have s3 := hs.dep q (by omega)
       have hrv := (mrow_ok (i := k) hx h00 hq2).srv
       have hsv : nth (stopsF x (nth p.routes k).visits) q = stopV x (nth (nth p.routes k).visits q) := stopsF_at hq2
       have hv : (mrowF x k (nth p.routes k) q).v = nth (nth p.routes k).visits q := rfl
       rw [hv] at hrv
       rw [hsv] at s3
       have hld : lastD (evalS x (nth p.routes k)) q ≤ (nth (evalS x (nth p.routes k)).times q).arr := by
        cases q with
        | zero => exact s1.2.1
        | succ q => exact s2
       have hls : lastD (evalS x (nth p.routes k)) (q + 1) = (nth (evalS x (nth p.routes k)).times q).dep := rfl
       have a3 : mrowF x k (nth p.routes k) q = ⟨k, nth (nth p.routes k).visits q, (stopV x (nth (nth p.routes k).visits q)).place, nth (evalS x (nth p.routes k)).times q, false, nth (lodsF x (nth p.routes k).visits) (q + 1)⟩ := rfl
       rw [a3] at a2
       have g1 : decide (((manF x p.routes p.routes.length).length : Int) ≤ ((manF x p.routes k).length + q : Nat)) = false := decide_eq_false (by omega)
       have g2 : decide ((nth (evalS x (nth p.routes k)).times q).arr < lastD (evalS x (nth p.routes k)) q) = false := decide_eq_false (by omega)
       have g3 : decide ((nth (evalS x (nth p.routes k)).times q).beg < (nth (evalS x (nth p.routes k)).times q).arr) = false := decide_eq_false (by omega)
       have g4 : decide ((nth (evalS x (nth p.routes k)).times q).dep < (nth (evalS x (nth p.routes k)).times q).beg) = false := decide_eq_false (by omega)
       generalize hat : (manF x p.routes k).length + q = at1 at a1 a2 g1 ⊢
       refine awp_drawnA mixed (by kernel_rfl) (by kernel_rfl) ?_
       simp (maxSteps := 3000000) (disch := omega) only [a2, g1, g2, g3, g4, decide_true, Bool.not_true, go_sem, seval]
       refine ⟨q + 1, by omega, by omega, Weak.mk ?_⟩
       rw [show (manF x p.routes k).length + (q + 1) = at1 + 1 by omega]
       simp (disch := omega) only [instO, plnO, mRte, hls, a2, go_sem, seval]
      ·have hql : q = (nth p.routes k).visits.length := by omega
       subst hql
       exact ⟨k + 1, by omega, by omega, Weak.mk (by simp (disch := omega) only [instO, plnO, hms, List.length_append, hrl, go_sem, seval])⟩
    ·have hkl : k = p.routes.length := by omega
     subst hkl
     simp (disch := omega) only [decide_true, go_sem, seval]
     refine (ex58_c).use ?_
     simp (disch := omega) only [go_sem, seval]
  ·rw [if_neg h0] at c1
   refine useT' c1 ?_
   simp (disch := omega) only [go_sem, seval]
   refine acond_b (fun h5 => ?_) (fun h5 => ?_) <;> (try simp only [decide_eq_true_eq, decide_eq_false_iff_not] at h5) <;> simp (disch := omega) only [Sh.out h5, go_sem, seval]
   ·refine (ex58_c).use ?_
    simp (disch := omega) only [go_sem, seval]
   ·exact absurd h0 h5
end Go.Proofs.YtngonbhfbpnkcaaGreatDoor.K
