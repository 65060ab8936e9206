/- Declarations that the closing texts need, part 11: joined by tools/slim.py. -/
import Derived.Test.YtiigdaohjanidaaGreatDoorP10
import Derived.WideLaws
set_option linter.unusedVariables false
set_option linter.unusedSimpArgs false
namespace Go.AM
open Go.RowKit
theorem dJ (n m:Nat) {P:Program} {id:Nat} {l:List Oper} {fr:List V} {H:List Obj} {Q:Exit->List V->List Obj->Prop}
  (h:YF P (l.map (·.dst)) (l.take n) fr H fun fr' H'=> ∃fr2 H2,Weak H.length fr' H' fr2 H2/\YF P (l.map (·.dst)) ((l.drop n).take m) fr2 H2 fun fr3 H3=> ∃fr4 H4,Weak H.length fr3 H3 fr4 H4/\YF P (l.map (·.dst)) ((l.drop n).drop m) fr4 H4 (Q .normal)):AWP P (.region id (List.toArray l) false) fr H Q:=by
 intro F ι a w hr hf;refine wp_region_list ?_;have key:=WC (P:=P) (ops:=List.toArray l) (Q:=fun e a' w'=> ∃fr' H' ι',Q e fr' H'/\Good F H ι w H' ι' w'/\Fr F H' ι' w' fr' a') (r:=l.drop n) (l.take n) fr H _ (by simpa using h) F ι a w hr hf ?_
 ·simp_all
 ·rintro fr' H' ι' a' w' ⟨fr2,H2,hw,hk⟩ g f;obtain ⟨ι2,r2,f2,g2⟩:=hw F ι' a' w' g.rel f;have g3:=g2 H ι w (Zv _) g;have key2:=WC (P:=P) (ops:=List.toArray l) (Q:=fun e a' w'=> ∃fr' H' ι',Q e fr' H'/\Good F H ι w H' ι' w'/\Fr F H' ι' w' fr' a') (r:=(l.drop n).drop m) ((l.drop n).take m) fr2 H2 _ (by simpa using hk) F ι2 a' w' r2 f2 ?_
  ·grind [Ak]
  ·rintro fr3 H3 ι3 a3 w3 ⟨fr4,H4,hw2,hk2⟩ g4 f4;obtain ⟨ι4,r4,f5,g5⟩:=hw2 F ι3 a3 w3 g4.rel f4;exact Yq (P:=P) (ops:=List.toArray l) _ _ H4 _ (by simpa using hk2) F ι4 _ w3 r4 f5 fun fr6 H6 ι6 a6 w6 k6 g6 f6=>⟨fr6,H6,ι6,k6,(g5 H ι w (Zv _) (g3.trans g4)).trans g6,f6⟩
end Go.AM
