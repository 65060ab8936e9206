/- Declarations that the closing texts need, part 6: joined by tools/slim.py. -/
import Derived.Test.YtccjopdlbolnhaaGreatDoorZ5
import Derived.Lib.LazyBuf
set_option linter.unusedVariables false
set_option linter.unusedSimpArgs false
namespace Go.AM
open Go.RowKit
@[go_sem ↓] theorem aops_capp {P ds o l m fr H K} : aops P ds (List.append (o :: l) m) fr H K = aops P ds (o :: List.append l m) fr H K := rfl
@[go_sem ↓] theorem aops_napp {P ds m fr H K} : aops P ds (List.append [] m) fr H K = aops P ds m fr H K := rfl
@[go_sem] theorem lapp_cons {α : Type} {x : α} {l m} : List.append (x :: l) m = x :: List.append l m := rfl
@[go_sem] theorem lapp_nil {α : Type} {m : List α} : List.append [] m = m := rfl
end Go.AM
set_option linter.unusedVariables false
set_option linter.unusedSimpArgs false
namespace Go.AM
open Go.RowKit
theorem wpList_part {P : Program} {ops : Array Oper} {Q : Exit → Act → World → Prop} {r : List Oper} : ∀ (l : List Oper) (fr : List V) (H : List Obj) (K : List V → List Obj → Prop), aops P (ops.toList.map (·.dst)) l fr H K →
    ∀ F ι a w, Rel F H ι w → Fr F H ι w fr a →
      (∀ fr' H' ι' a' w', K fr' H' → Good F H ι w H' ι' w' → Fr F H' ι' w' fr' a' → wpList P ops Q r a' w') → wpList P ops Q (l ++ r) a w
  | [], fr, H, K, h, F, ι, a, w, hr, hf, hq => hq fr H ι a w h (Good.refl hr) hf
  | o :: l, fr, H, K, h, F, ι, a, w, hr, hf, hq => by
    have step : ∀ {fr : List V} {a : Act}, Fr F H ι w fr a → astep P o fr H (fun x H' => aops P (ops.toList.map (·.dst)) l (ptO fr o.dst x) H' K) → o.wp P a w (wpList P ops Q (l ++ r)) Q := fun hf h =>
      wp_astep h hr hf fun x H' ι' v w' hk g q => wpList_part l _ H' K hk F ι' _ w' g.rel ((g.fr hf).put o.dst q)
        fun fr' H2 ι2 a' w2 k2 g2 f2 => hq fr' H2 ι2 a' w2 k2 (g.trans g2) f2
    simp only [aops] at h
    simp only [List.cons_append, wpList]
    split at h
    · rename_i hg
      have hw : Region.wanted o (yielded ops a.tmps) = true := by simp [Region.wanted, hg]
      rw [if_pos hw]
      exact .inl (step hf h)
    · rename_i j b hg
      unfold aguard at h
      split at h
      rotate_left
      · rename_i hc
        have hy := yielded_none hf hc
        have hw : ¬ (Region.wanted o (yielded ops a.tmps) = true) := by simp [Region.wanted, hg, hy]
        rw [if_neg hw]
        exact wpList_part l _ H K h F ι _ w hr (hf.put o.dst rv_skip) hq
      · exact h.elim
      rename_i c hc
      have hy := yielded_of hf hc
      by_cases hcb : c = b
      · have hw : Region.wanted o (yielded ops a.tmps) = true := by simp [Region.wanted, hg, hy, hcb]
        rw [if_pos hw]
        exact .inl (step hf (h.1 hcb))
      · have hw : ¬ (Region.wanted o (yielded ops a.tmps) = true) := by simp [Region.wanted, hg, hy, hcb]
        rw [if_neg hw]
        exact wpList_part l _ H K (h.2 hcb) F ι _ w hr (hf.put o.dst rv_skip) hq
end Go.AM
set_option linter.unusedVariables false
set_option linter.unusedSimpArgs false
namespace Go.AM
open Go.RowKit
@[go_sem] theorem wkV_tupl {H : List Obj} {n cs cs'} : wkV H n (.tup cs) (.tup cs') = (cs' = cs ∧ refBs n cs = true) := by simp [wkV, frz, refB]
section
variable {P : Program} {H : List Obj} {t : TypeId} {o : Nat} {l : List (Int × Int)} {k : Int} {K : V → List Obj → Prop}
end
end Go.AM
set_option linter.unusedVariables false
set_option linter.unusedSimpArgs false
namespace Go.AM
open Go.RowKit
theorem awp_mid (n : Nat) {P : Program} {id : Nat} {l : List Oper} {fr : List V} {H : List Obj} {Q : Exit → List V → List Obj → Prop}
    (h : aops P (l.map (·.dst)) (l.take n) fr H fun fr' H' => ∃ fr2 H2, Weak H.length fr' H' fr2 H2 ∧ aops P (l.map (·.dst)) (l.drop n) fr2 H2 (Q .normal)) : AWP P (.region id (List.toArray l) false) fr H Q := by
  intro F ι a w hr hf
  refine wp_region_list ?_
  have key := wpList_part (P := P) (ops := List.toArray l) (Q := fun e a' w' => ∃ fr' H' ι', Q e fr' H' ∧ Good F H ι w H' ι' w' ∧ Fr F H' ι' w' fr' a') (r := l.drop n) (l.take n) fr H _ (by simpa using h) F ι a w hr hf ?_
  · rw [List.take_append_drop] at key
    simpa using key
  · rintro fr' H' ι' a' w' ⟨fr2, H2, hw, hk⟩ g f
    obtain ⟨ι2, r2, f2, g2⟩ := hw F ι' a' w' g.rel f
    exact wpList_aops (P := P) (ops := List.toArray l) _ _ H2 _ (by simpa using hk) F ι2 _ w' r2 f2 fun fr3 H3 ι3 a3 w3 k3 g3 f3 => ⟨fr3, H3, ι3, k3, (g2 H ι w (Nat.le_refl _) g).trans g3, f3⟩
end Go.AM
