/- Declarations that the closing texts need, part 8: joined by tools/slim.py. -/
import Derived.Test.YtiigdaohjanidaaGreatDoorY7
import Derived.Laws.IdiomCopy
set_option linter.unusedVariables false
set_option linter.unusedSimpArgs false
namespace Go.AM
open Go.RowKit
theorem LP {P:Program} {o:Oper} {fr:List V} {H:List Obj} {t t2 e:TypeId} {x y:Operand} {ob n:Nat} {c:Bool} {xs ys:List PV} (h:o.op= .call { callee:= .builtin .copy,args:= #[x,y],argTypes:= #[t,t2] })
  (hu:P.underlying t=some (.slice e)) (hs:(P.info? e).map (·.size)=some 1) (hx:ev fr x= .sl ob 0 n n) (hy:ev fr y= .p (.list c ys)) (hH:H[ob]? =some (.elems 1 xs)) (hn:xs.length=n) (hle:ys.length<=n) (hone: ∀q∈ys,q.one=true) :
  OpS P o fr H (.p (.int .i64 (ys.length:Nat))) (H.set ob (.elems 1 (ys++xs.drop ys.length))):=fun F ι a w hr hf=>by
 have h1:=hf.ev x;have h2:=hf.ev y;rw [hx] at h1;rw [hy] at h2
 cases h2 with | p _ _ h2 =>
 have hgo: ∀k:Nat,goInt k= .int .i64 (k:Int):=fun k=>rfl
 have same:ys= []->H.set ob (.elems 1 (ys++xs.drop ys.length))=H:=fun h=>by grind [BV]
 have none': ∀(d s:Option Addr) (dl dc sl sc:Nat),a.eval x= .slice d dl dc->a.eval y= .slice s sl sc->Nat.min sl dl=0->ys= [] ->
   ∃nx v ι' w',(execOp a.eval o).run P w= .ok nx w'/\(nx= .value v\/(nx= .skip/\v=undef))/\Good F H ι w (H.set ob (.elems 1 (ys++xs.drop ys.length))) ι' w'/\RV F (H.set ob (.elems 1 (ys++xs.drop ys.length))) ι' w' (.p (.int .i64 (ys.length:Nat))) v:=fun d s dl dc sl sc e1 e2 h0 hys=>by
  have hrun:=run_copy_none (P:=P) w t t2 o.type e d s dl dc sl sc hu hs h0;rw [same hys];subst hys;exact ⟨_,.int .i64 0,ι,w,by simp [execOp,h,resolve,invoke,builtin,e1,e2,hrun];rfl,.inl rfl,Good.refl hr,.p _ _ (.int _ _)⟩
 generalize hxe:a.eval x=vx at h1;generalize hye:a.eval y=vy at h2
 cases h1 with
 | slNil _ S ad hi hH2 =>
  rw [hH] at hH2;simp at hH2;obtain ⟨rfl,rfl⟩:=hH2;have hys:ys= []:=Xe Za
  cases h2 with
  | nils=>grind
  | emp=>grind
  | list=>grind
 | sl _ _ _ _ b S cap ty xs2 cc hb hH2 ht hw hcap hl hlen hm =>
  rw [hH] at hH2;simp at hH2;obtain ⟨rfl,rfl⟩:=hH2;rcases hr.elm ob 1 xs hH with ⟨e1,e2⟩ | ⟨b2,c2,t3,cap2,f1,f2,f3,f4,f5,f6,f7⟩
  ·grind
  ·have:b2=b:=by grind
   subst this;rw [hw] at f2;simp at f2;obtain ⟨rfl,rfl⟩:=f2
   have hkey: ∀(sa:Addr) (sc:Nat) (us:List Value),a.eval y= .slice (some sa) ys.length sc->us.length=ys.length->(∀j v,us[j]? =some v->w.cell? (sa.add j)=some v)->(∀v∈us,v.oneCell'=true)->(∀(j:Nat) (q:PV),ys[j]? =some q->RP (Own F ι) w q (us.getD j undef)) ->
     ∃nx v ι' w',(execOp a.eval o).run P w= .ok nx w'/\(nx= .value v\/(nx= .skip/\v=undef))/\Good F H ι w (H.set ob (.elems 1 (ys++xs.drop ys.length))) ι' w'/\RV F (H.set ob (.elems 1 (ys++xs.drop ys.length))) ι' w' (.p (.int .i64 (ys.length:Nat))) v:=fun sa sc us he hul hcell hone' hrp=>by
    have hmin:us.length=Nat.min ys.length n:=by grind
    have hrun:=run_copy_row P w t t2 o.type e b2 0 n cap sa ys.length sc cc ty us hu hs hw hmin hcell Za hone';have hT:Turned w (w.setRow b2 (cc.toList.take 0++us++cc.toList.drop (0+us.length)).toArray) b2 _ ty:=Turned.setRow hw
    have hsz:(cc.toList.take 0++us++cc.toList.drop (0+us.length)).toArray.size=cc.size:=by simp;omega
    have g:=XO (w':=w.setRow b2 (cc.toList.take 0++us++cc.toList.drop (0+us.length)).toArray) (cap:=cap2) (xs':=ys++xs.drop ys.length) hr hH hT.os hT.tape hT.output
     (fun c0 t0 hc0=>by grind) Zb hT.at' (fun k _ hk=>hT.other k hk)
     (.inl ⟨hb,.inl ⟨by simp;omega,fun c0 t0 hc0=>by grind⟩⟩) Za (by simp;omega) f5
     (fun i q hi=>by
      grind [PV.cells_one])
     (fun i q j z hi hj=>by
      have hq1:q.cells.length=1:=by
       grind [PV.cells_one]
      have hj0:j=0:=by grind
      subst hj0
      by_cases hlt:i<ys.length
      ·rw [Yr hlt] at hi;have hq:=hone q (XE hi);rw [PV.cells_one hq] at hj;simp at hj;subst hj
       have e1:(cc.toList.take 0++us++cc.toList.drop (0+us.length)).toArray.getD (i*1+0) undef=us.getD i undef:=by
        simp [ZI,Yr (show i<us.length by omega),Xv]
       grind
      ·rw [Wr Za,Js] at hi;have:=f7 _ q 0 z hi hj
       have e1:(cc.toList.take 0++us++cc.toList.drop (0+us.length)).toArray.getD (i*1+0) undef=cc.getD ((ys.length+(i-ys.length))*1+0) undef:=by
        simp only [ZI,Kc,UF,ZR,Xl,Nat.mul_one,V5]
        grind
       grind)
    have hio:ι.set ob (some b2)=ι:=by
     refine Ju fun i=> ?_
     grind
    rw [hio] at g;exact ⟨_,.int .i64 (ys.length:Nat),ι,_,by simp [execOp,h,resolve,invoke,builtin,hxe,he,hrun,hgo,hul],.inl rfl,g,.p _ _ (.int _ _)⟩
   cases h2 with
   | nils=>grind
   | emp=>grind
   | list _ _ b3 off cap3 S3 u hX hb3 hc3 hm3 hcl hS hu3 hr3 =>
    have hcell: ∀(j:Nat) (q:PV),ys[j]? =some q->w.cell? ⟨b3,off+j,none⟩=some (u j 0)/\RP (Own F ι) w q (u j 0):=fun j q hq=>by
     have h1:=hone q (XE hq)
     have hS1:S3=1:=by grind [PV.cells_one]
     have e1:=hu3 j q 0 q hq (by rw [PV.cells_one h1];rfl)
     grind [PV.cells_one]
    refine hkey ⟨b3,off,none⟩ cap3 ((List.range ys.length).map fun i=>u i 0) hye Zb (fun j v hj=> ?_) (fun v hv=> ?_) (fun j q hq=> ?_)
    ·rw [Addr.add_lit];simp only [Xu,Zr] at hj;obtain ⟨i,hi,rfl⟩:=hj
     have hlt:j<ys.length:=by grind
     rw [List.getElem?_range hlt] at hi;simp at hi;subst hi;exact (hcell j ys[j] Zb).1
    ·obtain ⟨i,hi,rfl⟩:=Xz.1 hv
     have hlt:i<ys.length:=by grind
     exact (hcell i ys[i] Zb).2.oneCell (hone _ (Jv hlt))
    grind

 | slD _ _ _ _ _ hd=>grind
 | slS _ _ _ _ _ S2 xs2 hd hne=>grind
 | slC _ _ _ _ _ _ hd=>grind
theorem Dm (n:Nat) {P:Program} {id:Nat} {l:List Oper} {o:Oper} {fr:List V} {H:List Obj} {Q:Exit->List V->List Obj->Prop} (ho:l=l.take n++o::l.drop (n+1)) (hg:o.guard=none)
  (h:Yz P (l.map (·.dst)) (l.take n) fr H fun fr' H'=> ∃y H2,OpS P o fr' H' y H2/\Yz P (l.map (·.dst)) (l.drop (n+1)) (Y7 fr' o.dst y) H2 (Q .normal)):AWP P (.region id (List.toArray l) false) fr H Q:=by
 intro F ι a w hr hf;refine wp_region_list ?_;have key:=VU (P:=P) (ops:=List.toArray l) (Q:=fun e a' w'=> ∃fr' H' ι',Q e fr' H'/\Good F H ι w H' ι' w'/\Fr F H' ι' w' fr' a') (r:=o::l.drop (n+1)) (l.take n) fr H _ (by simpa using h) F ι a w hr hf ?_
 ·grind
 ·rintro fr' H' ι' a' w' ⟨y,H2,hp,hk⟩ g f;simp only [wpList]
  have hw:Region.wanted o (yielded (List.toArray l) a'.tmps)=true:=by simp [Region.wanted,hg]
  rw [if_pos hw];refine .inl ?_;refine iL hp g.rel f fun ι2 v w2 g2 hrv=> ?_;exact Yq (P:=P) (ops:=List.toArray l) _ _ H2 _ Za F ι2 _ w2 g2.rel ((g2.fr f).put o.dst hrv) fun fr2 H3 ι3 a3 w3 k3 g3 f3=>⟨fr2,H3,ι3,k3,(g.trans g2).trans g3,f3⟩
theorem Si {P:Program} {o:Oper} {fr:List V} {H:List Obj} {t t2 e:TypeId} {x y:Operand} {ob of n m tot k:Nat} {xs:List PV} (h:o.op= .call { callee:= .builtin .copy,args:= #[x,y],argTypes:= #[t,t2] })
  (hu:P.underlying t=some (.slice e)) (hs:(P.info? e).map (·.size)=some 1) (hx:ev fr x= .sl ob of n tot) (hy:ev fr y= .sl ob 0 m tot) (hH:H[ob]? =some (.elems 1 xs)) (hn:xs.length=tot) (hk:k=Nat.min m n) (h0:0<k) (hone: ∀q∈xs,q.one=true) :
  OpS P o fr H (.p (.int .i64 (k:Nat))) (H.set ob (.elems 1 (xs.take of++xs.take k++xs.drop (of+k)))):=fun F ι a w hr hf=>by
 have h1:=hf.ev x;have h2:=hf.ev y;rw [hx] at h1;rw [hy] at h2;have hgo: ∀k:Nat,goInt k= .int .i64 (k:Int):=fun k=>rfl
 have hkm:k<=m/\k<=n:=by grind
 generalize hxe:a.eval x=vx at h1;generalize hye:a.eval y=vy at h2
 cases h1 with
 | slNil=>omega
 | sl _ _ _ _ b S cap ty xs2 cc hb hH2 ht hw hcap hl hlen hm =>
  rw [hH] at hH2;simp at hH2;obtain ⟨rfl,rfl⟩:=hH2
  cases h2 with
  | slNil=>omega
  | sl _ _ _ _ b' S' cap' ty' xs' cc' hb' hH2' ht' hw' hcap' hl' hlen' hm' =>
   rw [hb] at hb';simp at hb';subst hb';rw [hH] at hH2';simp at hH2';obtain ⟨rfl,rfl⟩:=hH2';rcases hr.elm ob 1 xs hH with ⟨e1,e2⟩ | ⟨b2,c2,t3,cap2,f1,f2,f3,f4,f5,f6,f7⟩
   ·grind
   ·have:b2=b:=by grind
    subst this;rw [hw] at f2;simp at f2;obtain ⟨rfl,rfl⟩:=f2;obtain ⟨us,hus⟩: ∃us,us=(List.range k).map fun i=>cc.getD i undef:=⟨_,rfl⟩
    have hul:us.length=k:=by simp [hus]
    have hut: ∀j,j<k->us[j]? =some (cc.getD j undef):=fun j hj=>by grind
    have hsize:tot<=cc.size:=Za
    have hq: ∀j,j<k-> ∃q,xs[j]? =some q/\q.cells= [q]/\RP (Own F ι) w q (cc.getD j undef)/\q.one=true:=fun j hj=>by
     have hjx:j<xs.length:=Za
     have e:=Ws hjx;have h1:=hone _ (Jv hjx);have hc:=PV.cells_one h1;have:=f7 j _ 0 _ e (by rw [hc];rfl)
     grind
    have hmin:us.length=Nat.min m n:=Za
    have hrun:=run_copy_row P w t t2 o.type e b2 of n cap ⟨b2,0,none⟩ m cap' cc ty us hu hs hw hmin (fun j v hj=>by
     have hjk:j<k:=by grind
     rw [hut j hjk] at hj;simp at hj;subst hj;rw [Addr.add_lit]
     have:j<cc.size:=Za
     simp [World.cell?,hw,this]) Za (fun v hv=>by
     obtain ⟨j,hj⟩:=XD.1 hv
     have hjk:j<k:=by grind
     rw [hut j hjk] at hj;simp at hj;subst hj;obtain ⟨q,_,_,q3,q4⟩:=hq j hjk;have:=q3.oneCell q4
     grind [ZI])
    have hT:Turned w (w.setRow b2 (cc.toList.take of++us++cc.toList.drop (of+us.length)).toArray) b2 _ ty:=Turned.setRow hw
    have hsz:(cc.toList.take of++us++cc.toList.drop (of+us.length)).toArray.size=cc.size:=by simp;omega
    have hlx:(xs.take of++xs.take k++xs.drop (of+k)).length=xs.length:=by simp;omega
    have hgx: ∀i,(xs.take of++xs.take k++xs.drop (of+k))[i]? =if i<of then xs[i]? else if i<of+k then xs[i-of]? else xs[i]? :=fun i=>by
     by_cases c1:i<of
     ·rw [if_pos c1,UC,Yr (by simp;omega),Uz c1]
     ·rw [if_neg c1]
      by_cases c2:i<of+k
      ·rw [if_pos c2,UC,Wr (by simp;omega),Yr (by simp;omega),Zy,Uz Za]
       congr 1;omega
      ·rw [if_neg c2,Wr (by simp;omega),Js]
       congr 1;simp;omega
    have hgc: ∀i,i<cc.size->(cc.toList.take of++us++cc.toList.drop (of+us.length)).toArray.getD i undef=if i<of then cc.getD i undef else if i<of+k then cc.getD (i-of) undef else cc.getD i undef:=fun i hi=>by
     simp only [ZI,Kc]
     by_cases c1:i<of
     ·rw [if_pos c1,UC,Yr (by simp;omega),Uz c1];simp
     ·rw [if_neg c1]
      by_cases c2:i<of+k
      ·rw [if_pos c2,UC,Wr (by simp;omega),Yr (by simp;omega),Zy]
       have:i-min of cc.toList.length=i-of:=by simp;omega
       rw [this,hut _ Za];simp
      ·rw [if_neg c2,Wr (by simp;omega),Js]
       have:of+us.length+(i-(List.take of cc.toList++us).length)=i:=by simp;omega
       grind
    have g:=XO (w':=w.setRow b2 (cc.toList.take of++us++cc.toList.drop (of+us.length)).toArray) (cap:=cap2) (xs':=xs.take of++xs.take k++xs.drop (of+k)) hr hH hT.os hT.tape hT.output
     (fun c0 t0 hc0=>by grind) Zb hT.at' (fun k _ hk=>hT.other k hk)
     (.inl ⟨hb,.inl ⟨hlx,fun c0 t0 hc0=>by grind⟩⟩) Za Za f5
     (fun i q hi=>by
      rw [hgx] at hi
      split at hi
      ·grind
      ·split at hi
       ·exact f6 _ q hi
       grind)
     (fun i q j z hi hj=>by
      have hix:i<xs.length:=by grind
      have key: ∀i',xs[i']? =some q->RP (Own F ι) w z (cc.getD i' undef)/\j=0:=fun i' hi'=>by
       have hl:=f6 i' q hi'
       have hj0:j=0:=by have:=(Zt.1 hj).1;omega
       subst hj0;have:=f7 i' q 0 z hi' hj
       grind
      rw [hgx] at hi
      have hj0:j=0:=by
       split at hi
       ·exact (key _ hi).2
       ·split at hi
        ·exact (key _ hi).2
        ·exact (key _ hi).2
      subst hj0;rw [Nat.mul_one,V5,hgc i Za]
      split at hi
      ·rename_i c1;rw [if_pos c1];exact (key _ hi).1
      ·rename_i c1;rw [if_neg c1]
       split at hi
       ·rename_i c2;rw [if_pos c2];exact (key _ hi).1
       ·rename_i c2;rw [if_neg c2];exact (key _ hi).1)
    have hio:ι.set ob (some b2)=ι:=by
     refine Ju fun i=> ?_;rw [UD]
     split
     ·grind
     ·rfl
    rw [hio] at g
    exact ⟨_,.int .i64 (k:Nat),ι,_,by
     simp only [Nat.mul_one] at hxe hye
     simp [execOp,h,resolve,invoke,builtin,hxe,hye,hrun,hgo,hul],.inl rfl,g,.p _ _ (.int _ _)⟩
  | slD _ _ _ _ _ hd=>grind
  | slS _ _ _ _ _ S2 xs2 hd hne=>grind
  | slC _ _ _ _ _ _ hd=>grind
 | slD _ _ _ _ _ hd=>grind
 | slS _ _ _ _ _ S2 xs2 hd hne=>grind
 | slC _ _ _ _ _ _ hd=>grind
theorem FD {P:Program} (w:World) (dT sT ty elem:TypeId) (d a:Option Addr) (dLen dCap sLen sCap S:Nat) (hu:P.underlying dT=some (.slice elem)) (hs:(P.info? elem).map (·.size)=some S) (hn:Nat.min sLen dLen=0) :
  (Builtin.copy_ #[dT,sT] ty #[.slice d dLen dCap,.slice a sLen sCap]).run P w= .ok (goInt 0) w:=by
 cases hq:P.info? elem with
 | none=>grind
 | some i =>
  have hl: ∀(x:Addr),(loadCells x 0).run P w= .ok #[] w:=fun x=>by rfl
  cases d<;>cases a<;>simp [Builtin.copy_,run_underlying hu,Builtin.lenOf,Builtin.firstCells,sizeOf,typeInfo,hq,hn,storeCells,hl]
theorem Gq {P:Program} {o:Oper} {fr:List V} {H:List Obj} {t t2 e:TypeId} {x y:Operand} {ob of n tot S S':Nat} {c:Bool} {xs ys:List PV} (h:o.op= .call { callee:= .builtin .copy,args:= #[x,y],argTypes:= #[t,t2] })
  (hu:P.underlying t=some (.slice e)) (hs:(P.info? e).map (·.size)=some S) (hx:ev fr x= .sl ob of n tot) (hy:ev fr y= .p (.list c ys)) (hH:H[ob]? =some (.elems S' xs)) (hn:xs.length=tot) (h0:n=0\/ys= []) :
  OpS P o fr H (.p (.int .i64 0)) H:=fun F ι a w hr hf=>by
 have h1:=hf.ev x;have h2:=hf.ev y;rw [hx] at h1;rw [hy] at h2
 cases h2 with | p _ _ h2 =>
 have hgo: ∀k:Nat,goInt k= .int .i64 (k:Int):=fun k=>rfl
 have none': ∀(d s:Option Addr) (dl dc sl sc:Nat),a.eval x= .slice d dl dc->a.eval y= .slice s sl sc->Nat.min sl dl=0 ->
   ∃nx v ι' w',(execOp a.eval o).run P w= .ok nx w'/\(nx= .value v\/(nx= .skip/\v=undef))/\Good F H ι w H ι' w'/\RV F H ι' w' (.p (.int .i64 0)) v:=fun d s dl dc sl sc e1 e2 hz=>by
  have hrun:=FD (P:=P) w t t2 o.type e d s dl dc sl sc S hu hs hz;exact ⟨_,.int .i64 0,ι,w,by simp [execOp,h,resolve,invoke,builtin,e1,e2,hrun];rfl,.inl rfl,Good.refl hr,.p _ _ (.int _ _)⟩
 generalize hxe:a.eval x=vx at h1;generalize hye:a.eval y=vy at h2
 have go: ∀(d:Option Addr) (dc:Nat),vx= .slice d n dc-> ∃nx v ι' w',(execOp a.eval o).run P w= .ok nx w'/\(nx= .value v\/(nx= .skip/\v=undef))/\Good F H ι w H ι' w'/\RV F H ι' w' (.p (.int .i64 0)) v:=fun d dc hd=>by
  cases h2 with
  | nils=>grind
  | emp=>grind
  | list=>grind
 cases h1 with
 | slNil=>grind
 | sl=>grind
 | slD _ _ _ _ _ hd=>grind
 | slS _ _ _ _ _ S2 xs2 hd hne=>grind
 | slC _ _ _ _ _ _ hd=>grind
theorem FC {P:Program} (w:World) (dT sT ty elem:TypeId) (g dLen dCap:Nat) (a:Addr) (sLen sCap S:Nat) (cur:Array Value) (t:TypeId) (cs:List Value)
  (hu:P.underlying dT=some (.slice elem)) (hs:(P.info? elem).map (·.size)=some S) (hg:w.heap[g]? =some (.cells cur t (0,0))) (hn:cs.length=Nat.min sLen dLen*S)
  (hsrc: ∀j v,cs[j]? =some v->w.cell? (a.add j)=some v) (hfit:cs.length<=cur.size) (h1: ∀v∈cs,v.oneCell'=true) :
  (Builtin.copy_ #[dT,sT] ty #[.slice (some ⟨g,0,none⟩) dLen dCap,.slice (some a) sLen sCap]).run P w= .ok (goInt (Nat.min sLen dLen)) (w.setRow g (cs++cur.toList.drop cs.length).toArray):=by
 have hl:=run_loadCells_list (P:=P) w a cs hsrc;have hst:=run_storeCells_at P g 0 t cs 0 cur w hg Za h1;simp only [V5,Xl,UF,ZR] at hst
 cases hq:P.info? elem with
 | none=>grind
 | some i =>
  have hi:i.size=S:=by grind
  simp [Builtin.copy_,run_underlying hu,Builtin.lenOf,Builtin.firstCells,sizeOf,typeInfo,hq,hi,<- hn,hl,hst]
theorem Gp {P:Program} {o:Oper} {fr:List V} {H:List Obj} {t t2 e:TypeId} {x y:Operand} {ob n S:Nat} {c:Bool} {xs ys:List PV} (h:o.op= .call { callee:= .builtin .copy,args:= #[x,y],argTypes:= #[t,t2] })
  (hu:P.underlying t=some (.slice e)) (hs:(P.info? e).map (·.size)=some S) (hS:0<S) (hx:ev fr x= .sl ob 0 n n) (hy:ev fr y= .p (.list c ys)) (hH:H[ob]? =some (.elems S xs)) (hn:xs.length=n) (hle:ys.length<=n) (h0:0<ys.length) (hone: ∀q∈ys,q.cells.length=S/\ ∀z∈q.cells,z.one=true) :
  OpS P o fr H (.p (.int .i64 (ys.length:Nat))) (H.set ob (.elems S (ys++xs.drop ys.length))):=fun F ι a w hr hf=>by
 have h1:=hf.ev x;have h2:=hf.ev y;rw [hx] at h1;rw [hy] at h2
 cases h2 with | p _ _ h2 =>
 have hgo: ∀k:Nat,goInt k= .int .i64 (k:Int):=fun k=>rfl;generalize hxe:a.eval x=vx at h1;generalize hye:a.eval y=vy at h2
 cases h2 with
 | nils=>simp at h0
 | emp=>simp at h0
 | list _ _ b3 off cap3 S3 u hX hb3 hc3 hm3 hcl hS3 hu3 hr3 =>
 have hS3:S3=S:=by
  have e:=Ws h0
  grind
 subst hS3
 cases h1 with
 | slNil=>omega
 | sl _ _ _ _ b S' cap ty xs2 cc hb hH2 ht hw hcap hl hlen hm =>
  rw [hH] at hH2;simp at hH2;obtain ⟨rfl,rfl⟩:=hH2;rcases hr.elm ob S3 xs hH with ⟨e1,e2⟩ | ⟨b2,c2,t3,cap2,f1,f2,f3,f4,f5,f6,f7⟩
  ·grind
  ·have:b2=b:=by grind
   subst this;rw [hw] at f2;simp at f2;obtain ⟨rfl,rfl⟩:=f2;obtain ⟨us,hus⟩: ∃us,us=(List.range (ys.length*S3)).map fun q=>u (q / S3) (q%S3):=⟨_,rfl⟩
   have hul:us.length=ys.length*S3:=by simp [hus]
   have hut: ∀q,q<ys.length*S3->us[q]? =some (u (q / S3) (q%S3)):=fun q hq=>by grind
   have hcellq: ∀q,q<ys.length*S3-> ∃y z,ys[q / S3]? =some y/\y.cells[q%S3]? =some z/\z.one=true:=fun q hq=>by
    have hi:q / S3<ys.length:=Nat.div_lt_of_lt_mul (by grind);have e:=Ws hi;obtain ⟨g1,g2⟩:=hone _ (Jv hi)
    have hj:q%S3<(ys[q / S3]).cells.length:=by rw [g1];exact Jo _ hS
    exact ⟨_,_,e,Ws hj,g2 _ (Jv hj)⟩
   have hmul:ys.length*S3<=cc.size:=by grind [XU]
   have hrun:=FC w t t2 o.type e b2 n cap ⟨b3,off,none⟩ ys.length cap3 S3 cc ty us hu hs Za (by grind) (fun q v hq=>by
    have hlt:q<ys.length*S3:=by grind
    rw [hut q hlt] at hq;simp at hq;subst hq;obtain ⟨y,z,g1,g2,_⟩:=hcellq q hlt;have:=hu3 _ y _ z g1 g2;rw [Addr.add_lit];rw [Nat.add_assoc,Nat.div_add_mod' q S3] at this
    exact this) Za (fun v hv=>by
    obtain ⟨q,hq⟩:=XD.1 hv
    have hlt:q<ys.length*S3:=by grind
    rw [hut q hlt] at hq;simp at hq;subst hq;obtain ⟨y,z,g1,g2,g3⟩:=hcellq q hlt
    exact (hr3 _ y _ z g1 g2).oneCell g3)
   have hT:Turned w (w.setRow b2 (us++cc.toList.drop us.length).toArray) b2 _ ty:=Turned.setRow hw
   have hsz:(us++cc.toList.drop us.length).toArray.size=cc.size:=by simp;omega
   have hlx:(ys++xs.drop ys.length).length=xs.length:=by simp;omega
   have g:=XO (w':=w.setRow b2 (us++cc.toList.drop us.length).toArray) (cap:=cap2) (xs':=ys++xs.drop ys.length) hr hH hT.os hT.tape hT.output
    (fun c0 t0 hc0=>by grind) Zb hT.at' (fun k _ hk=>hT.other k hk)
    (.inl ⟨hb,.inl ⟨hlx,fun c0 t0 hc0=>by grind⟩⟩) Za Za f5
    (fun i q hi=>by
     by_cases hlt:i<ys.length
     ·grind
     ·rw [Wr Za,Js] at hi
      grind)
    (fun i q j z hi hj=>by
     have hjl:=(Zt.1 hj).1
     by_cases hlt:i<ys.length
     ·rw [Yr hlt] at hi;rw [(hone q (XE hi)).1] at hjl
      have hq:i*S3+j<ys.length*S3:=by
       have:(i+1)*S3<=ys.length*S3:=XU _ hlt
       grind
      have e1:(us++cc.toList.drop us.length).toArray.getD (i*S3+j) undef=u i j:=by
       simp only [ZI,Kc];rw [Yr Za,hut _ hq];rw [Nat.add_comm,Nat.add_mul_div_right _ _ hS,U0 hjl,Nat.add_mul_mod_self_right,KQ hjl];simp
      grind
     ·rw [Wr Za,Js] at hi;have hl6:=f6 _ q hi;have:=f7 _ q j z hi hj
      have e1:(us++cc.toList.drop us.length).toArray.getD (i*S3+j) undef=cc.getD ((ys.length+(i-ys.length))*S3+j) undef:=by
       have hge:ys.length*S3<=i*S3:=XU _ Za;simp only [ZI,Kc];rw [Wr Za,Js,hul];rw [show ys.length*S3+(i*S3+j-ys.length*S3)=i*S3+j by omega,show ys.length+(i-ys.length)=i by omega];simp
      grind)
   have hio:ι.set ob (some b2)=ι:=by
    refine Ju fun i=> ?_;rw [UD]
    split
    ·grind
    ·rfl
   rw [hio] at g
   exact ⟨_,.int .i64 (ys.length:Nat),ι,_,by
    simp only [Nat.zero_mul] at hxe
    simp [execOp,h,resolve,invoke,builtin,hxe,hye,hrun,hgo,show Nat.min ys.length n=ys.length from Nat.min_eq_left hle],.inl rfl,g,.p _ _ (.int _ _)⟩
 | slD _ _ _ _ _ hd=>grind
 | slS _ _ _ _ _ S2 xs2 hd hne=>grind
 | slC _ _ _ _ _ _ hd=>grind
end Go.AM
