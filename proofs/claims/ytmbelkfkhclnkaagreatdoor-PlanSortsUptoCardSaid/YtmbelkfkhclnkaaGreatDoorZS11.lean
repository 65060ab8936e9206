/- Declarations that the closing texts need, part 11: joined by tools/slim.py. -/
import Derived.Test.YtmbelkfkhclnkaaGreatDoorZS10
import Derived.WideLaws
set_option linter.unusedVariables false
set_option linter.unusedSimpArgs false
namespace Go.AM
open Go.RowKit
theorem Fp {P:Program} {o:Oper} {fr:List V} {H:List Obj} {t t2:TypeId} {x:Operand} (h:o.op= .binOp .neq t x (.const .nilIface) t2) (hu:P.underlying t=some (.interface (P.methodsAt t)))
  (hx:ev fr x= .p .nili):qH P o fr H (fun z=>z= .p (.bool false)):=fun F ι a w hr hf=>by
 have h1:=hf.ev x;rw [hx] at h1
 cases h1 with | p _ _ h1 =>
 generalize hxe:a.eval x=vx at h1
 cases h1
 refine ⟨.p (.bool false),.bool false,rfl,?_,.p _ _ (.bool _)⟩;simp only [execOp,h,hxe,binOp];rw [show a.eval (.const .nilIface)= .nilIface from rfl,eqGuard_nil_constR];simp [run_equal_nil_nil w t hu]
theorem BT (n m:Nat) {P:Program} {id:Nat} {l:List Oper} {fr:List V} {H:List Obj} {Q:Exit->List V->List Obj->Prop}
  (h:Xm P (l.map (·.dst)) (l.take n) fr H fun fr' H'=> ∃fr2 H2,Weak H.length fr' H' fr2 H2/\Xm P (l.map (·.dst)) ((l.drop n).take m) fr2 H2 fun fr3 H3=> ∃fr4 H4,Weak H.length fr3 H3 fr4 H4/\Xm P (l.map (·.dst)) ((l.drop n).drop m) fr4 H4 (Q .normal)):AWP P (.region id (List.toArray l) false) fr H Q:=by
 intro F ι a w hr hf;refine wp_region_list ?_;have key:=XH (P:=P) (ops:=List.toArray l) (Q:=fun e a' w'=> ∃fr' H' ι',Q e fr' H'/\Good F H ι w H' ι' w'/\Fr F H' ι' w' fr' a') (r:=l.drop n) (l.take n) fr H _ (by simpa using h) F ι a w hr hf ?_
 ·simp_all
 ·rintro fr' H' ι' a' w' ⟨fr2,H2,hw,hk⟩ g f;obtain ⟨ι2,r2,f2,g2⟩:=hw F ι' a' w' g.rel f;have g3:=g2 H ι w (Nat.le_refl _) g;have key2:=XH (P:=P) (ops:=List.toArray l) (Q:=fun e a' w'=> ∃fr' H' ι',Q e fr' H'/\Good F H ι w H' ι' w'/\Fr F H' ι' w' fr' a') (r:=(l.drop n).drop m) ((l.drop n).take m) fr2 H2 _ (by simpa using hk) F ι2 a' w' r2 f2 ?_
  ·grind [List.take_append_drop]
  ·rintro fr3 H3 ι3 a3 w3 ⟨fr4,H4,hw2,hk2⟩ g4 f4;obtain ⟨ι4,r4,f5,g5⟩:=hw2 F ι3 a3 w3 g4.rel f4;exact Z6 (P:=P) (ops:=List.toArray l) _ _ H4 _ (by simpa using hk2) F ι4 _ w3 r4 f5 fun fr6 H6 ι6 a6 w6 k6 g6 f6=>⟨fr6,H6,ι6,k6,(g5 H ι w (Nat.le_refl _) (g3.trans g4)).trans g6,f6⟩
theorem Fo {P:Program} {o:Oper} {fr:List V} {H:List Obj} {t t2:TypeId} {x:Operand} (h:o.op= .binOp .neq t x (.const .nilIface) t2) (hu:P.underlying t=some (.interface (P.methodsAt t)))
  (hx:ev fr x= .err):qH P o fr H (fun z=>z= .p (.bool true)):=fun F ι a w hr hf=>by
 have h1:=hf.ev x;rw [hx] at h1;generalize hxe:a.eval x=vx at h1
 cases h1
 refine ⟨.p (.bool true),.bool true,rfl,?_,.p _ _ (.bool _)⟩;simp only [execOp,h,hxe,binOp];rw [show a.eval (.const .nilIface)= .nilIface from rfl,eqGuard_at_iface];simp [run_equal_held_nil w t _ _ hu]
theorem GI {P:Program} {o:Oper} {fr:List V} {H:List Obj} {t:TypeId} {x y:Operand} {S by':Nat} {z:PV} {m:Int} (h:o.op= .makeSlice t x y) (hF:Af P t=some (S,by',z))
  (hx:ev fr x= .p (.int .i64 0)) (hy:ev fr y= .p (.int .i64 m)) (hm:0<=m/\(by':Int)*m<=281474976710656/\m<=281474976710656):OpS P o fr H (.sl H.length 0 0 0) (H++ [.elems S []]):=fun F ι a w hr hf=>by
 have hx':=hf.ev x;have hy':=hf.ev y;rw [hx] at hx';rw [hy] at hy';unfold Af at hF
 split at hF
 rotate_left
 ·cases hF
 rename_i e hu
 split at hF
 rotate_left
 ·cases hF
 rename_i S' z' b hs hzv hb
 split at hF
 rotate_left
 ·cases hF
 rename_i hc;simp at hF;obtain ⟨rfl,rfl,rfl⟩:=hF;obtain ⟨hone',hS,hS0⟩:=hc;obtain ⟨hm0,hm1,hm2⟩:=hm
 cases hx' with | p _ _ hx'=>cases hy' with | p _ _ hy' =>
 obtain ⟨m,rfl⟩:=Int.eq_ofNat_of_zero_le hm0
 obtain ⟨zz,hzz⟩: ∃zz,((P.info? e).bind (·.zero))=some zz:=by
  unfold Wz at hzv;simp only [Option.bind_eq_some_iff] at hzv;obtain ⟨zz,h1,_⟩:=hzv;exact ⟨zz,by simpa [Option.bind_eq_some_iff] using h1⟩
 have hrz:RP (Own F ι) w z' zz:=Qc hzz hzv;obtain ⟨z1,z2⟩:=YQ hrz hone';simp only [Option.bind_eq_some_iff] at hzz;obtain ⟨ie,hie,hzz⟩:=hzz;simp [hie] at hb
 let arr:Array Value:=(Array.range (m*S')).map (zz.cells[· %zz.cells.size]!)
 have g:=YU (H:=H) hr (Pushed.alloc w arr e) (.elems S' []) ⟨m,by simp [arr],Zb,by unfold maxLen;omega,(fun i q hi=>by simp at hi),fun i q j c hi hj=>by simp at hi⟩;refine ⟨_,.slice (some ⟨w.heap.size,0,none⟩) 0 m,_,_,?_,.inl rfl,g,?_⟩
 ·have hw:IntKind.i64.wrap (m:Int)=m:=IntWalk.i64_in _ Za
  have hw0:IntKind.i64.wrap 0=0:=by decide
  have h1: ¬((m:Int)<0):=Za
  have h2: ¬(281474976710656<((ie.bytes:Int)*(m:Int))):=by rw [hb];omega
  by_cases h0:m*S'=0
  ·have e9:Array.range 0= #[]:=by simp [Array.range]
   simp [execOp,h,hx'.int_inv,hy'.int_inv,Instr.makeSlice,asInt,asIntOf,run_underlying hu,typeInfo,hie,hw,hw0,h1,h2,ZR hs,h0,newRow,e9,arr]
  ·simp [execOp,h,hx'.int_inv,hy'.int_inv,Instr.makeSlice,asInt,asIntOf,run_underlying hu,typeInfo,hie,hw,hw0,h1,h2,ZR hs,h0,zeroValue,hzz,newRow,arr]
 ·have:=RV.sl (F:=F) (w:=w.alloc (.cells arr e)) (H:=H++ [.elems S' []]) (ι:=ι++ [some w.heap.size]) H.length 0 0 0 w.heap.size S' m e [] arr (by rw [<- hr.len];simp) Zb Zb (Pushed.new (Pushed.alloc w arr e)) (by simp [arr]) (Nat.zero_le _) Za (by unfold maxLen;omega);simpa using this
end Go.AM
