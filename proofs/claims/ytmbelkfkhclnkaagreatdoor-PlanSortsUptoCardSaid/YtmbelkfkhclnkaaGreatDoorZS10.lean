/- Declarations that the closing texts need, part 10: joined by tools/slim.py. -/
import Derived.Test.YtmbelkfkhclnkaaGreatDoorZS9
import Derived.Laws.Cover3
set_option linter.unusedVariables false
set_option linter.unusedSimpArgs false
namespace Go.AM
open Go.RowKit
def qH (P:Program) (o:Oper) (fr:List V) (H:List Obj) (B:V->Prop):Prop :=
 ∀F ι a w,Rel F H ι w->Fr F H ι w fr a-> ∃x v,B x/\(execOp a.eval o).run P w= .ok (.value v) w/\RV F H ι w x v
theorem NH {P:Program} {o:Oper} {fr:List V} {H:List Obj} {t t2 e:TypeId} {x y:Operand} {c:Bool} {xs:List PV} (h:o.op= .binOp .eql t x y t2) (hu:P.underlying t=some (.slice e))
  (hx:ev fr x= .p (.list c xs)) (hy: ∀a:Act,a.eval y= .slice none 0 0):qH P o fr H (fun z=> ∃b:Bool,z= .p (.bool b)/\(b=true->xs= [])):=fun F ι a w hr hf=>by
 have h1:=hf.ev x;rw [hx] at h1
 cases h1 with | p _ _ h1 =>
 generalize hxe:a.eval x=vx at h1
 have out: ∀(ad:Option Addr) (n m:Nat),vx= .slice ad n m->(ad=none->xs= [])-> ∃x v,(∃b:Bool,x= .p (.bool b)/\(b=true->xs= []))/\(execOp a.eval o).run P w= .ok (.value v) w/\RV F H ι w x v:=fun ad n m hv hn=>by
  subst hv;refine ⟨.p (.bool ad.isNone),.bool ad.isNone,⟨_,rfl,fun hb=>hn (by simp_all)⟩,?_,.p _ _ (.bool _)⟩
  simp_all [execOp,eqGuard_at_slice,binOp,run_equal_slice_nil]
 cases h1 with
 | nils=>grind
 | emp _ ad cap=>grind
 | list _ _ b off cap=>grind
theorem UN (n:Nat) {P:Program} {id:Nat} {l:List Oper} {o:Oper} {fr:List V} {H:List Obj} {Q:Exit->List V->List Obj->Prop} (ho:l=l.take n++o::l.drop (n+1)) (hg:o.guard=none)
  (h:Xm P (l.map (·.dst)) (l.take n) fr H fun fr' H'=> ∃B,qH P o fr' H' B/\ ∀y,B y->Xm P (l.map (·.dst)) (l.drop (n+1)) (W0 fr' o.dst y) H' (Q .normal)):AWP P (.region id (List.toArray l) false) fr H Q:=by
 intro F ι a w hr hf;refine wp_region_list ?_;have key:=XH (P:=P) (ops:=List.toArray l) (Q:=fun e a' w'=> ∃fr' H' ι',Q e fr' H'/\Good F H ι w H' ι' w'/\Fr F H' ι' w' fr' a') (r:=o::l.drop (n+1)) (l.take n) fr H _ (by simpa using h) F ι a w hr hf ?_
 ·grind
 ·rintro fr' H' ι' a' w' ⟨B,hp,hk⟩ g f;simp only [wpList]
  have hw:Region.wanted o (yielded (List.toArray l) a'.tmps)=true:=by simp [Region.wanted,hg]
  rw [if_pos hw];refine .inl ?_;obtain ⟨y,v,hB,hrun,hrv⟩:=hp F ι' a' w' g.rel f;unfold Oper.wp;rw [hrun];exact Z6 (P:=P) (ops:=List.toArray l) _ _ H' _ (by grind) F ι' _ w' g.rel (f.put o.dst hrv) fun fr2 H3 ι3 a3 w3 k3 g3 f3=>⟨fr2,H3,ι3,k3,g.trans g3,f3⟩
end Go.AM
