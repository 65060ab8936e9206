/- Declarations that the closing texts need, part 8: joined by tools/slim.py. -/
import Derived.Test.YtmbelkfkhclnkaaGreatDoorYM7
import Derived.Laws.IdiomCopy
set_option linter.unusedVariables false
set_option linter.unusedSimpArgs false
namespace Go.AM
open Go.RowKit
theorem G6 {P:Program} {o:Oper} {fr:List V} {H:List Obj} {t t2 e:TypeId} {x y:Operand} {ob n:Nat} {c:Bool} {xs ys:List PV} (h:o.op= .call { callee:= .builtin .copy,args:= #[x,y],argTypes:= #[t,t2] })
  (hu:P.underlying t=some (.slice e)) (hs:(P.info? e).map (·.size)=some 1) (hx:ev fr x= .sl ob 0 n n) (hy:ev fr y= .p (.list c ys)) (hH:H[ob]? =some (.elems 1 xs)) (hn:xs.length=n) (hle:ys.length<=n) (hone: ∀q∈ys,q.one=true) :
  OpS P o fr H (.p (.int .i64 (ys.length:Nat))) (H.set ob (.elems 1 (ys++xs.drop ys.length))):=fun F ι a w hr hf=>by
 have h1:=hf.ev x;have h2:=hf.ev y;rw [hx] at h1;rw [hy] at h2
 cases h2 with | p _ _ h2 =>
 have hgo: ∀k:Nat,goInt k= .int .i64 (k:Int):=fun k=>rfl
 have same:ys= []->H.set ob (.elems 1 (ys++xs.drop ys.length))=H:=fun h=>by grind [V5]
 have none': ∀(d s:Option Addr) (dl dc sl sc:Nat),a.eval x= .slice d dl dc->a.eval y= .slice s sl sc->Nat.min sl dl=0->ys= [] ->
   ∃nx v ι' w',(execOp a.eval o).run P w= .ok nx w'/\(nx= .value v\/(nx= .skip/\v=undef))/\Good F H ι w (H.set ob (.elems 1 (ys++xs.drop ys.length))) ι' w'/\RV F (H.set ob (.elems 1 (ys++xs.drop ys.length))) ι' w' (.p (.int .i64 (ys.length:Nat))) v:=fun d s dl dc sl sc e1 e2 h0 hys=>by
  have hrun:=run_copy_none (P:=P) w t t2 o.type e d s dl dc sl sc hu hs h0;rw [same hys];subst hys;exact ⟨_,.int .i64 0,ι,w,by simp [execOp,h,resolve,invoke,builtin,e1,e2,hrun];rfl,.inl rfl,Good.refl hr,.p _ _ (.int _ _)⟩
 generalize hxe:a.eval x=vx at h1;generalize hye:a.eval y=vy at h2
 cases h1 with
 | slNil _ S ad hi hH2 =>
  rw [hH] at hH2;simp at hH2;obtain ⟨rfl,rfl⟩:=hH2;have hys:ys= []:=List.eq_nil_of_length_eq_zero Za
  cases h2 with
  | nils=>grind
  | emp=>grind
  | list=>grind
 | sl _ _ _ _ b S cap ty xs2 cc hb hH2 ht hw hcap hl hlen hm =>
  rw [hH] at hH2;simp at hH2;obtain ⟨rfl,rfl⟩:=hH2;rcases hr.elm ob 1 xs hH with ⟨e1,e2⟩ | ⟨b2,c2,t3,cap2,f1,f2,f3,f4,f5,f6,f7⟩
  ·grind
  ·have:b2=b:=by grind
   subst this;rw [hw] at f2;simp at f2;obtain ⟨rfl,rfl⟩:=f2
   have hkey: ∀(sa:Addr) (sc:Nat) (us:List Value),a.eval y= .slice (some sa) ys.length sc->us.length=ys.length->(∀j v,us[j]? =some v->w.cell? (sa.add j)=some v)->(∀v∈us,v.oneCell'=true)->(∀(j:Nat) (q:PV),ys[j]? =some q->RP (Own F ι) w q (us.getD j undef)) ->
     ∃nx v ι' w',(execOp a.eval o).run P w= .ok nx w'/\(nx= .value v\/(nx= .skip/\v=undef))/\Good F H ι w (H.set ob (.elems 1 (ys++xs.drop ys.length))) ι' w'/\RV F (H.set ob (.elems 1 (ys++xs.drop ys.length))) ι' w' (.p (.int .i64 (ys.length:Nat))) v:=fun sa sc us he hul hcell hone' hrp=>by
    have hmin:us.length=Nat.min ys.length n:=by grind
    have hrun:=run_copy_row P w t t2 o.type e b2 0 n cap sa ys.length sc cc ty us hu hs hw hmin hcell Za hone';have hT:Turned w (w.setRow b2 (cc.toList.take 0++us++cc.toList.drop (0+us.length)).toArray) b2 _ ty:=Turned.setRow hw
    have hsz:(cc.toList.take 0++us++cc.toList.drop (0+us.length)).toArray.size=cc.size:=by simp;omega
    have g:=Xc (w':=w.setRow b2 (cc.toList.take 0++us++cc.toList.drop (0+us.length)).toArray) (cap:=cap2) (xs':=ys++xs.drop ys.length) hr hH hT.os hT.tape hT.output
     (fun c0 t0 hc0=>by grind) Zb hT.at' (fun k _ hk=>hT.other k hk)
     (.inl ⟨hb,.inl ⟨by simp;omega,fun c0 t0 hc0=>by grind⟩⟩) Za (by simp;omega) f5
     (fun i q hi=>by
      grind [PV.cells_one])
     (fun i q j z hi hj=>by
      have hq1:q.cells.length=1:=by
       grind [PV.cells_one]
      have hj0:j=0:=by grind
      subst hj0
      by_cases hlt:i<ys.length
      ·rw [List.getElem?_append_left hlt] at hi;have hq:=hone q (List.mem_of_getElem? hi);rw [PV.cells_one hq] at hj;simp at hj;subst hj
       have e1:(cc.toList.take 0++us++cc.toList.drop (0+us.length)).toArray.getD (i*1+0) undef=us.getD i undef:=by
        simp [Array.getD_eq_getD_getElem?,List.getElem?_append_left (show i<us.length by omega),List.getD_eq_getElem?_getD]
       grind
      ·rw [List.getElem?_append_right Za,List.getElem?_drop] at hi;have:=f7 _ q 0 z hi hj
       have e1:(cc.toList.take 0++us++cc.toList.drop (0+us.length)).toArray.getD (i*1+0) undef=cc.getD ((ys.length+(i-ys.length))*1+0) undef:=by
        simp only [Array.getD_eq_getD_getElem?,List.getElem?_toArray,List.take_zero,List.nil_append,Nat.zero_add,Nat.mul_one,Nat.add_zero]
        grind
       grind)
    have hio:ι.set ob (some b2)=ι:=by
     refine List.ext_getElem? fun i=> ?_
     grind
    rw [hio] at g;exact ⟨_,.int .i64 (ys.length:Nat),ι,_,by simp [execOp,h,resolve,invoke,builtin,hxe,he,hrun,hgo,hul],.inl rfl,g,.p _ _ (.int _ _)⟩
   cases h2 with
   | nils=>grind
   | emp=>grind
   | list _ _ b3 off cap3 S3 u hX hb3 hc3 hm3 hcl hS hu3 hr3 =>
    have hcell: ∀(j:Nat) (q:PV),ys[j]? =some q->w.cell? ⟨b3,off+j,none⟩=some (u j 0)/\RP (Own F ι) w q (u j 0):=fun j q hq=>by
     have h1:=hone q (List.mem_of_getElem? hq)
     have hS1:S3=1:=by grind [PV.cells_one]
     have e1:=hu3 j q 0 q hq (by rw [PV.cells_one h1];rfl)
     grind [PV.cells_one]
    refine hkey ⟨b3,off,none⟩ cap3 ((List.range ys.length).map fun i=>u i 0) hye Zb (fun j v hj=> ?_) (fun v hv=> ?_) (fun j q hq=> ?_)
    ·rw [Addr.add_lit];simp only [List.getElem?_map,Option.map_eq_some_iff] at hj;obtain ⟨i,hi,rfl⟩:=hj
     have hlt:j<ys.length:=by grind
     rw [List.getElem?_range hlt] at hi;simp at hi;subst hi;exact (hcell j ys[j] Zb).1
    ·obtain ⟨i,hi,rfl⟩:=List.mem_map.1 hv
     have hlt:i<ys.length:=by grind
     exact (hcell i ys[i] Zb).2.oneCell (hone _ (List.getElem_mem hlt))
    grind

 | slD _ _ _ _ _ hd=>grind
 | slS _ _ _ _ _ S2 xs2 hd hne=>grind
 | slC _ _ _ _ _ _ hd=>grind
theorem UV (n:Nat) {P:Program} {id:Nat} {l:List Oper} {o:Oper} {fr:List V} {H:List Obj} {Q:Exit->List V->List Obj->Prop} (ho:l=l.take n++o::l.drop (n+1)) (hg:o.guard=none)
  (h:Z0 P (l.map (·.dst)) (l.take n) fr H fun fr' H'=> ∃y H2,OpS P o fr' H' y H2/\Z0 P (l.map (·.dst)) (l.drop (n+1)) (YR fr' o.dst y) H2 (Q .normal)):AWP P (.region id (List.toArray l) false) fr H Q:=by
 intro F ι a w hr hf;refine wp_region_list ?_;have key:=Z5 (P:=P) (ops:=List.toArray l) (Q:=fun e a' w'=> ∃fr' H' ι',Q e fr' H'/\Good F H ι w H' ι' w'/\Fr F H' ι' w' fr' a') (r:=o::l.drop (n+1)) (l.take n) fr H _ (by simpa using h) F ι a w hr hf ?_
 ·grind
 ·rintro fr' H' ι' a' w' ⟨y,H2,hp,hk⟩ g f;simp only [wpList]
  have hw:Region.wanted o (yielded (List.toArray l) a'.tmps)=true:=by simp [Region.wanted,hg]
  rw [if_pos hw];refine .inl ?_;refine HR hp g.rel f fun ι2 v w2 g2 hrv=> ?_;exact ZM (P:=P) (ops:=List.toArray l) _ _ H2 _ Za F ι2 _ w2 g2.rel ((g2.fr f).put o.dst hrv) fun fr2 H3 ι3 a3 w3 k3 g3 f3=>⟨fr2,H3,ι3,k3,(g.trans g2).trans g3,f3⟩
end Go.AM
