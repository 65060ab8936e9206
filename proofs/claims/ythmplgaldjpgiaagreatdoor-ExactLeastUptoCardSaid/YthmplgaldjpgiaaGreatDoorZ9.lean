/- Declarations that the closing texts need, part 9: joined by tools/slim.py. -/
import Derived.Test.YthmplgaldjpgiaaGreatDoorZ8
import Derived.Laws.IdiomCopy
set_option linter.unusedVariables false
set_option linter.unusedSimpArgs false
namespace Go.AM
open Go.RowKit
theorem Zjd {P:Program} {o:Oper} {fr:List V} {H:List Obj} {t t2 e:TypeId} {x y:Operand} {ob n:Nat} {c:Bool} {xs ys:List PV} (h:o.op= .call { callee:= .builtin .copy,args:= #[x,y],argTypes:= #[t,t2] })
  (hu:P.underlying t=some (.slice e)) (hs:(P.info? e).map (·.size)=some 1) (hx:ev fr x= .sl ob 0 n n) (hy:ev fr y= .p (.list c ys)) (hH:H[ob]? =some (.elems 1 xs)) (hn:xs.length=n) (hle:ys.length<=n) (hone: ∀q∈ys,q.one=true) :
  OpS P o fr H (.p (.int .i64 (ys.length:Nat))) (H.set ob (.elems 1 (ys++xs.drop ys.length))):=fun F ι a w hr hf=>by
 have h1:=hf.ev x;have h2:=hf.ev y;rw [hx] at h1;rw [hy] at h2
 cases h2 with | p _ _ h2 =>
 have hgo: ∀k:Nat,goInt k= .int .i64 (k:Int):=fun k=>rfl
 have same:ys= []->H.set ob (.elems 1 (ys++xs.drop ys.length))=H:=fun h=>by subst h;simpa using QD hH
 have none': ∀(d s:Option Addr) (dl dc sl sc:Nat),a.eval x= .slice d dl dc->a.eval y= .slice s sl sc->Nat.min sl dl=0->ys= [] ->
   ∃nx v ι' w',(execOp a.eval o).run P w= .ok nx w'/\(nx= .value v\/(nx= .skip/\v=undef))/\Good F H ι w (H.set ob (.elems 1 (ys++xs.drop ys.length))) ι' w'/\RV F (H.set ob (.elems 1 (ys++xs.drop ys.length))) ι' w' (.p (.int .i64 (ys.length:Nat))) v:=fun d s dl dc sl sc e1 e2 h0 hys=>by
  have hrun:=run_copy_none (P:=P) w t t2 o.type e d s dl dc sl sc hu hs h0;rw [same hys];subst hys;exact ⟨_,.int .i64 0,ι,w,by simp [execOp,h,resolve,invoke,builtin,e1,e2,hrun,hgo];rfl,.inl rfl,Good.refl hr,.p _ _ (.int _ _)⟩
 generalize hxe:a.eval x=vx at h1;generalize hye:a.eval y=vy at h2
 cases h1 with
 | slNil _ S ad hi hH2 =>
  rw [hH] at hH2;simp at hH2;obtain ⟨rfl,rfl⟩:=hH2;have hys:ys= []:=List.eq_nil_of_length_eq_zero (by omega)
  cases h2 with
  | nils=>exact none' _ _ _ _ _ _ hxe hye (by simp [Nat.min_def]) hys
  | emp=>exact none' _ _ _ _ _ _ hxe hye (by simp [Nat.min_def]) hys
  | list=>exact none' _ _ _ _ _ _ hxe hye (by simp [Nat.min_def]) hys
 | sl _ _ _ _ b S cap ty xs2 cc hb hH2 ht hw hcap hl hlen hm =>
  rw [hH] at hH2;simp at hH2;obtain ⟨rfl,rfl⟩:=hH2;rcases hr.elm ob 1 xs hH with ⟨e1,e2⟩ | ⟨b2,c2,t3,cap2,f1,f2,f3,f4,f5,f6,f7⟩
  ·rw [e1] at hb;cases hb
  ·have:b2=b:=by rw [hb] at f1;simpa using f1.symm
   subst this;rw [hw] at f2;simp at f2;obtain ⟨rfl,rfl⟩:=f2
   have hkey: ∀(sa:Addr) (sc:Nat) (us:List Value),a.eval y= .slice (some sa) ys.length sc->us.length=ys.length->(∀j v,us[j]? =some v->w.cell? (sa.add j)=some v)->(∀v∈us,v.oneCell'=true)->(∀(j:Nat) (q:PV),ys[j]? =some q->RP (Own F ι) w q (us.getD j undef)) ->
     ∃nx v ι' w',(execOp a.eval o).run P w= .ok nx w'/\(nx= .value v\/(nx= .skip/\v=undef))/\Good F H ι w (H.set ob (.elems 1 (ys++xs.drop ys.length))) ι' w'/\RV F (H.set ob (.elems 1 (ys++xs.drop ys.length))) ι' w' (.p (.int .i64 (ys.length:Nat))) v:=fun sa sc us he hul hcell hone' hrp=>by
    have hmin:us.length=Nat.min ys.length n:=by rw [hul];exact (Nat.min_eq_left hle).symm
    have hrun:=run_copy_row P w t t2 o.type e b2 0 n cap sa ys.length sc cc ty us hu hs hw hmin hcell (by omega) hone';have hT:Turned w (w.setRow b2 (cc.toList.take 0++us++cc.toList.drop (0+us.length)).toArray) b2 _ ty:=Turned.setRow hw
    have hsz:(cc.toList.take 0++us++cc.toList.drop (0+us.length)).toArray.size=cc.size:=by simp;omega
    have g:=ZY (w':=w.setRow b2 (cc.toList.take 0++us++cc.toList.drop (0+us.length)).toArray) (cap:=cap2) (xs':=ys++xs.drop ys.length) hr hH hT.os hT.tape hT.output
     (fun c0 t0 hc0=>by rw [hw] at hc0;simp at hc0;obtain ⟨rfl,rfl⟩:=hc0;exact ⟨rfl,hsz⟩) (by rw [hT.size];exact Nat.le_refl _) hT.at' (fun k _ hk=>hT.other k hk)
     (.inl ⟨hb,.inl ⟨by simp;omega,fun c0 t0 hc0=>by rw [hw] at hc0;simp at hc0;obtain ⟨rfl,rfl⟩:=hc0;exact ⟨rfl,hsz⟩⟩⟩) (by rw [hsz];exact f3) (by simp;omega) f5
     (fun i q hi=>by
      by_cases hlt:i<ys.length
      ·rw [List.getElem?_append_left hlt] at hi;rw [PV.cells_one (hone q (List.mem_of_getElem? hi))];rfl
      ·rw [List.getElem?_append_right (by omega),List.getElem?_drop] at hi
       exact f6 _ q hi)
     (fun i q j z hi hj=>by
      have hq1:q.cells.length=1:=by
       by_cases hlt:i<ys.length
       ·rw [List.getElem?_append_left hlt] at hi;rw [PV.cells_one (hone q (List.mem_of_getElem? hi))];rfl
       ·rw [List.getElem?_append_right (by omega),List.getElem?_drop] at hi;exact f6 _ q hi
      have hj0:j=0:=by have:=(List.getElem?_eq_some_iff.1 hj).1;omega
      subst hj0
      by_cases hlt:i<ys.length
      ·rw [List.getElem?_append_left hlt] at hi;have hq:=hone q (List.mem_of_getElem? hi);rw [PV.cells_one hq] at hj;simp at hj;subst hj
       have e1:(cc.toList.take 0++us++cc.toList.drop (0+us.length)).toArray.getD (i*1+0) undef=us.getD i undef:=by
        simp [Array.getD_eq_getD_getElem?,List.getElem?_append_left (show i<us.length by omega),List.getD_eq_getElem?_getD]
       rw [e1];exact hrp i q hi
      ·rw [List.getElem?_append_right (by omega),List.getElem?_drop] at hi;have:=f7 _ q 0 z hi hj
       have e1:(cc.toList.take 0++us++cc.toList.drop (0+us.length)).toArray.getD (i*1+0) undef=cc.getD ((ys.length+(i-ys.length))*1+0) undef:=by
        simp only [Array.getD_eq_getD_getElem?,List.getElem?_toArray,List.take_zero,List.nil_append,Nat.zero_add,Nat.mul_one,Nat.add_zero];rw [List.getElem?_append_right (by omega),List.getElem?_drop,hul];simp
       rw [e1];exact this)
    have hio:ι.set ob (some b2)=ι:=by
     refine List.ext_getElem? fun i=> ?_;rw [List.getElem?_set]
     split
     ·rename_i hi;subst hi;split
      ·exact hb.symm
      ·rename_i hge;rw [List.getElem?_eq_none (by omega)]
     ·rfl
    rw [hio] at g;exact ⟨_,.int .i64 (ys.length:Nat),ι,_,by simp [execOp,h,resolve,invoke,builtin,hxe,he,hrun,hgo,hul],.inl rfl,g,.p _ _ (.int _ _)⟩
   cases h2 with
   | nils=>exact none' _ _ _ _ _ _ hxe hye (by simp [Nat.min_def]) rfl
   | emp=>exact none' _ _ _ _ _ _ hxe hye (by simp [Nat.min_def]) rfl
   | list _ _ b3 off cap3 S3 u hX hb3 hc3 hm3 hcl hS hu3 hr3 =>
    have hcell: ∀(j:Nat) (q:PV),ys[j]? =some q->w.cell? ⟨b3,off+j,none⟩=some (u j 0)/\RP (Own F ι) w q (u j 0):=fun j q hq=>by
     have h1:=hone q (List.mem_of_getElem? hq)
     have hS1:S3=1:=by rw [<- hS j q hq,PV.cells_one h1];rfl
     have e1:=hu3 j q 0 q hq (by rw [PV.cells_one h1];rfl);rw [hS1] at e1;exact ⟨by simpa using e1,hr3 j q 0 q hq (by rw [PV.cells_one h1];rfl)⟩
    refine hkey ⟨b3,off,none⟩ cap3 ((List.range ys.length).map fun i=>u i 0) hye (by simp) (fun j v hj=> ?_) (fun v hv=> ?_) (fun j q hq=> ?_)
    ·rw [Addr.add_lit];simp only [List.getElem?_map,Option.map_eq_some_iff] at hj;obtain ⟨i,hi,rfl⟩:=hj
     have hlt:j<ys.length:=by have:=(List.getElem?_eq_some_iff.1 hi).1;simpa using this
     rw [List.getElem?_range hlt] at hi;simp at hi;subst hi;exact (hcell j ys[j] (by simp)).1
    ·obtain ⟨i,hi,rfl⟩:=List.mem_map.1 hv
     have hlt:i<ys.length:=by simpa using hi
     exact (hcell i ys[i] (by simp)).2.oneCell (hone _ (List.getElem_mem hlt))
    ·have hlt:=(List.getElem?_eq_some_iff.1 hq).1
     have:((List.range ys.length).map fun i=>u i 0).getD j undef=u j 0:=by simp [List.getD_eq_getElem?_getD,List.getElem?_range hlt]
     rw [this];exact (hcell j q hq).2

 | slD _ _ _ _ _ hd=>rw [hH] at hd;cases hd
 | slS _ _ _ _ _ S2 xs2 hd hne=>rw [hH] at hd;simp at hd;obtain ⟨_,rfl⟩:=hd;omega
 | slC _ _ _ _ _ _ hd=>rw [hH] at hd;cases hd
theorem ZgG (n:Nat) {P:Program} {id:Nat} {l:List Oper} {o:Oper} {fr:List V} {H:List Obj} {Q:Exit->List V->List Obj->Prop} (ho:l=l.take n++o::l.drop (n+1)) (hg:o.guard=none)
  (h:YB P (l.map (·.dst)) (l.take n) fr H fun fr' H'=> ∃y H2,OpS P o fr' H' y H2/\YB P (l.map (·.dst)) (l.drop (n+1)) (ptO fr' o.dst y) H2 (Q .normal)):AWP P (.region id (List.toArray l) false) fr H Q:=by
 intro F ι a w hr hf;refine wp_region_list ?_;have key:=Xk (P:=P) (ops:=List.toArray l) (Q:=fun e a' w'=> ∃fr' H' ι',Q e fr' H'/\Good F H ι w H' ι' w'/\Fr F H' ι' w' fr' a') (r:=o::l.drop (n+1)) (l.take n) fr H _ (by simpa using h) F ι a w hr hf ?_
 ·rw [<- ho] at key;simpa using key
 ·rintro fr' H' ι' a' w' ⟨y,H2,hp,hk⟩ g f;simp only [wpList]
  have hw:Region.wanted o (yielded (List.toArray l) a'.tmps)=true:=by simp [Region.wanted,hg]
  rw [if_pos hw];refine .inl ?_;refine Zl9 hp g.rel f fun ι2 v w2 g2 hrv=> ?_;exact ZN (P:=P) (ops:=List.toArray l) _ _ H2 _ (by simpa using hk) F ι2 _ w2 g2.rel ((g2.fr f).put o.dst hrv) fun fr2 H3 ι3 a3 w3 k3 g3 f3=>⟨fr2,H3,ι3,k3,(g.trans g2).trans g3,f3⟩
theorem Zal (n:Nat) {P:Program} {id:Nat} {l:List Oper} {fr:List V} {H:List Obj} {Q:Exit->List V->List Obj->Prop}
  (h:YB P (l.map (·.dst)) (l.take n) fr H fun fr' H'=> ∃fr2 H2,Weak H.length fr' H' fr2 H2/\YB P (l.map (·.dst)) (l.drop n) fr2 H2 (Q .normal)):AWP P (.region id (List.toArray l) false) fr H Q:=by
 intro F ι a w hr hf;refine wp_region_list ?_;have key:=Xk (P:=P) (ops:=List.toArray l) (Q:=fun e a' w'=> ∃fr' H' ι',Q e fr' H'/\Good F H ι w H' ι' w'/\Fr F H' ι' w' fr' a') (r:=l.drop n) (l.take n) fr H _ (by simpa using h) F ι a w hr hf ?_
 ·rw [List.take_append_drop] at key;simpa using key
 ·rintro fr' H' ι' a' w' ⟨fr2,H2,hw,hk⟩ g f;obtain ⟨ι2,r2,f2,g2⟩:=hw F ι' a' w' g.rel f;exact ZN (P:=P) (ops:=List.toArray l) _ _ H2 _ (by simpa using hk) F ι2 _ w' r2 f2 fun fr3 H3 ι3 a3 w3 k3 g3 f3=>⟨fr3,H3,ι3,k3,(g2 H ι w (Nat.le_refl _) g).trans g3,f3⟩
def ZjC (ko:List Nat) (x:V):Prop:= ∃o∈ko,(∃off,x= .ptr o off)\/ ∃off n,x= .sl o off n n
theorem WE {ko:List Nat} {o off} (h:o∈ko):ZjC ko (.ptr o off):=⟨o,h,.inl ⟨off,rfl⟩⟩
def Ztq (ds:List (Option Nat)) (frj vals:List V) (ko:List Nat) (i:Nat) (o:Oper):Prop:=o.guard=none/\ ∃p,((∃u,o.op= .load u (.tmp p))\/(∃s f,o.op= .fieldAddr s (.tmp p) f)\/(∃t q,o.op= .indexAddr t (.tmp p) q)\/o.op= .nilCheck (.tmp p))/\ZjC ko (gt (Zx ds vals (Zs i o) frj) p)
theorem Zn5 {P:Program} {ds:List (Option Nat)} {fr vals:List V} {H L:List Obj} {ko:List Nat} {i:Nat} {o:Oper} (hk:Ztq ds fr vals ko i o) (h: ∀k∈ko,oat L k=oat H k) (k:ZfI P ds fr H vals i o):ZfI P ds fr L vals i o:=by
 obtain ⟨hg,p,hop,o1,ho1,hp⟩:=hk;replace h:=h o1 ho1;obtain ⟨y,h1,h2⟩:=k;refine ⟨y,h1,?_⟩;rw [hg] at h2 ⊢;simp only at h2 ⊢;unfold Zr Zt at h2 ⊢;generalize hX:gt (Zx ds vals (Zs i o) fr) p=X at hp;rcases hop with ⟨u,hop⟩ | ⟨s,f,hop⟩ | ⟨t,q,hop⟩ | hop
 ·have hl:UM P L u X=UM P H u X:=by
   rcases hp with ⟨off,rfl⟩ | ⟨off,n,rfl⟩
   ·simp only [UM,Ww,h]
   ·rfl
  rw [hop] at h2 ⊢;simp only [XI,aop,ZB,Xe,ev,hX,hl] at h2 ⊢
  cases hl:UM P H u X with
  | none=>rw [hl] at h2;simp [W5] at h2
  | some z=>rw [hl] at h2;exact ⟨h2.1,rfl⟩
 ·have hal:Ye L X=Ye H X:=by
   rcases hp with ⟨off,rfl⟩ | ⟨off,n,rfl⟩
   ·show (match oat L o1 with | .cells _=>true | _=>false)=(match oat H o1 with | .cells _=>true | _=>false);rw [h]
   ·rfl
  have ha:V6 P L s f X=V6 P H s f X:=by unfold V6;rw [hal]
  rw [hop] at h2 ⊢;simp only [XI,aop,ZB,Xe,ev,hX,ha] at h2 ⊢
  cases hl:V6 P H s f X with
  | none=>rw [hl] at h2;simp [W5] at h2
  | some z=>rw [hl] at h2;exact ⟨h2.1,rfl⟩
 ·obtain ⟨I,hI⟩: ∃I,I=ev (Zx ds vals (Zs i o) fr) q:=⟨_,rfl⟩
  have ha:Vg P L t X I=Vg P H t X I:=by
   have hal:Ye L X=Ye H X:=by
    rcases hp with ⟨off,rfl⟩ | ⟨off,n,rfl⟩
    ·show (match oat L o1 with | .cells _=>true | _=>false)=(match oat H o1 with | .cells _=>true | _=>false);rw [h]
    ·rfl
   rcases hp with ⟨off,rfl⟩ | ⟨off,n,rfl⟩
   ·unfold Vg;rw [hal]
   ·unfold Vg;simp only [h,hal]
  rw [hop] at h2 ⊢;have hx:evx (Zx ds vals (Zs i o) fr) (.tmp p)=X:=hX;simp only [XI,aop,ZB,Xe,hx,<- hI,ha] at h2 ⊢
  cases hz:Vg P H t X I with
  | none=>rw [hz] at h2;simp [W5] at h2
  | some z=>rw [hz] at h2;exact ⟨h2.1,rfl⟩
 ·have hal:Ye L X=Ye H X:=by
   rcases hp with ⟨off,rfl⟩ | ⟨off,n,rfl⟩
   ·show (match oat L o1 with | .cells _=>true | _=>false)=(match oat H o1 with | .cells _=>true | _=>false);rw [h]
   ·rfl
  rw [hop] at h2 ⊢;simp only [XI,aop,ZB,Xe,ev,hX,hal] at h2 ⊢
  cases hl:(Ye H X||Zqp X) with
  | false=>rw [hl] at h2;simp [W5] at h2
  | true=>rw [hl] at h2;simp only [if_true] at h2 ⊢;exact ⟨h2.1,trivial⟩
def Zar (P:Program) (ko:List Nat) (l:List Oper):Nat->List Nat->List V->List Obj->(List V->List Obj->Prop)->Prop
 | 0,_,fr,H,K=>K fr H
 | n+1,rem,fr,H,K=> ∀m∈Yr l rem,∃R:V->List Obj->Prop,Zt P (ZJ l m) fr H R/\ ∀y H',R y H'->(∀k∈ko,oat H' k=oat H k)/\Zar P ko l n (rem.erase m) (ptO fr (ZJ l m).dst y) H' K
def ZDe (P:Program) (ko:List Nat) (F:Nat->Prop) (H:List Obj) (l:List Oper) (ms:List Nat) (bs:List V) (K:List V->List Obj->Prop) (ds:List (Option Nat)) (fr vals:List V) (n:Nat) (ι0:List (Option Nat)) (w0:World) (listed:Array Bool) (a:Act) (w:World):Prop :=
 ∃(rem:List Nat) (dn:List (Nat×V)) (L:List Obj),(((∀m∈ms,m∈rem)->L=H)/\(∀k∈ko,oat L k=oat H k))/\rem.Nodup/\(∀m∈rem,m∈ms)/\(∀m∈ms,listed.getD m false=decide (m ∉ rem))/\(∀p∈dn,p.1∈ms/\p.1 ∉ rem)/\Zar P ko l rem.length rem (ptl l dn bs) L K /\
  ∃ι,Mid F L ds fr vals n listed ι a w/\Good F H ι0 w0 L ι w /\
   ∀p∈dn,∀d,(ZJ l p.1).dst=some d->d<fr.length->RV F L ι w p.2 (a.tmps.getD d undef)
theorem Zdb {P:Program} {ko:List Nat} {ops:Array Oper} {Q:Exit->Act->World->Prop} {F H fr vals} {n:Nat} {l:List Oper} {ms:List Nat} {K:List V->List Obj->Prop} (hol:ops.toList=l) (hB:Wa ops n=true) (hvl:vals.length=n)
  (hms: ∀m∈ms,m<n/\ops[m]? =some (ZJ l m)/\(ZJ l m).guard=none/\vals[m]? =some .junk)
  (hrd: ∀m∈ms,∀t∈opR (ZJ l m).op,∀j,j<n->(ops.toList.map (·.dst))[j]? =some (some t)->j∈Zs m (ZJ l m))
  (hev: ∀i,i<n->i ∉ ms->(WO (ZJ l i).op=true\/ ∀m∈ms,Jk l n i m=true)\/Ztq (ops.toList.map (·.dst)) (Zw ((ops.toList.map (·.dst)).take n) fr) vals ko i (ZJ l i))
  (hok: ∀(i:Nat) (o:Oper),i<n->i ∉ ms->ops[i]? =some o->ZfI P (ops.toList.map (·.dst)) (Zw ((ops.toList.map (·.dst)).take n) fr) H vals i o) {ι0 w0}
  (ht: ∀fr' L ι a w,K fr' L->Good F H ι0 w0 L ι w->Fr F L ι w fr' a->wpList P ops Q (ops.toList.drop n) a w) :
  ∀(u:Nat) (listed:Array Bool) (a:Act) (w:World),HeadInv .any ops n listed->((List.range n).filter fun i=> !listed.getD i false).length=u ->
   ZDe P ko F H l ms (Zx (ops.toList.map (·.dst)) vals (List.range n) (Zw ((ops.toList.map (·.dst)).take n) fr)) K (ops.toList.map (·.dst)) fr vals n ι0 w0 listed a w->wpAny P .any ops Q (u+(ops.size-n)) listed a w:=by
 simp only [Wa,Bool.and_eq_true,decide_eq_true_eq,Bool.or_eq_true] at hB;obtain ⟨⟨⟨⟨hn,hsc⟩,hea⟩,hap⟩,hseq⟩:=hB
 have hdl:n<=(ops.toList.map (·.dst)).length:=by simpa using hn
 -- the frame at late operations done, azs far azs is listed
 have frAt: ∀ {dn:List (Nat×V)} {L:List Obj} {listed:Array Bool} {ι:List (Option Nat)} {a:Act} {w:World} (ls:List Nat),(∀j∈ls,j<n/\listed.getD j false=true)->Mid F L (ops.toList.map (·.dst)) fr vals n listed ι a w ->
   (∀p∈dn,∀d,(ZJ l p.1).dst=some d->d<fr.length->RV F L ι w p.2 (a.tmps.getD d undef)) ->
   Fr F L ι w (ptl l dn (Zx (ops.toList.map (·.dst)) vals ls (Zw ((ops.toList.map (·.dst)).take n) fr))) a:=fun {dn L listed ι a w} ls hls mid slot=>by
  obtain ⟨f1,f2,f3⟩:=mid.fr ls hls;refine ⟨by rw [Vm];exact f1,f2,fun t x hx=> ?_⟩;rcases Zan l dn _ hx with ⟨p,h1,h2,rfl,h4⟩ | h1
  ·exact slot p h1 t h2 (by rw [ZF,ZH] at h4;exact h4)
  ·exact f3 t x h1
 intro u
 induction u with
 | zero =>
  intro listed a w inv hm mid
  have hall: ∀i,i<n->listed.getD i false=true:=fun i hi=>by
   have h0:=List.eq_nil_of_length_eq_zero hm
   have:i ∉ (List.range n).filter fun i=> !listed.getD i false:=by rw [h0];simp
   simp only [List.mem_filter,List.mem_range,not_and,Bool.not_eq_true',Bool.not_eq_false] at this;exact this hi
  have hl:listed=Array.replicate n true++Array.replicate (ops.size-n) false:=by
   refine Array.ext (by simp [inv.size];omega) fun i h1 h2=> ?_
   by_cases hi:i<n
   ·have:=hall i hi;rw [Array.getElem_append_left (by simpa using hi)];simp [h1] at this;simp [this]
   ·have:=inv.tail i (by omega) (by rw [<- inv.size];exact h1);rw [Array.getElem_append_right (by simp;omega)];simp [h1] at this;simp [this]
  obtain ⟨rem,dn,L,⟨hLH,hko⟩,hnd,hrm,hst,hdn,hlt,ι,mid,gd,slot⟩:=mid
  have hs:rem= []:=by
   cases rem with
   | nil=>rfl
   | cons m r =>
    have h1:=hst m (hrm m (by simp));rw [hall _ (hms m (hrm m (by simp))).1] at h1;simp at h1
  subst hs;have hw:=ht _ L ι a w hlt gd (frAt (List.range n) (fun j hj=>⟨List.mem_range.1 hj,hall j (List.mem_range.1 hj)⟩) mid slot);have:=wpAny_of_seq (md:= .any) (Q':=Q) (ops.toList.drop n) n listed a w (fun j=>by simp [List.getElem?_drop]) (by rw [hl];simpa using hseq) hw;simpa using this
 | succ u ih =>
  intro listed a w inv hm mid
  have hun: ∃i,i<n/\listed.getD i false=false:=by
   cases hf:(List.range n).filter fun i=> !listed.getD i false with
   | nil=>rw [hf] at hm;simp at hm
   | cons i l =>
    have:i∈(List.range n).filter fun i=> !listed.getD i false:=by rw [hf];simp
    simp only [List.mem_filter,List.mem_range,Bool.not_eq_true'] at this;exact ⟨i,this⟩
  have hsz: ∀ {i},i<n->i<listed.size:=fun h=>by rw [inv.size];omega
  have hready:Region.ready .any ops listed≠ []:=by
   obtain ⟨i,hi,hu⟩:=hun
   have: ∃i,i<n/\listed.getD i false=false/\ ∀j,j<i->listed.getD j false=true:=by
    induction i using Nat.strongRecOn with
    | _ i ihh =>
     by_cases hex: ∃j,j<i/\listed.getD j false=false
     ·obtain ⟨j,hj,hju⟩:=hex;exact ihh j hj (by omega) hju
     ·exact ⟨i,hi,hu,fun j hj=>by
       cases hb:listed.getD j false with
       | true=>rfl
       | false=>exact absurd ⟨j,hj,hb⟩ hex⟩
   obtain ⟨i,hi,hu,hmin⟩:=this;intro h0
   have:i∈Region.ready .any ops listed:=by
    have hlt:i<ops.size:=by omega
    refine mem_ready.2 ⟨getD_in (hsz hi) hu,ops[i],by simp [hlt],fun e he hb=> ?_⟩;have h1:=List.all_eq_true.1 hea i (List.mem_range.2 hi);simp only [hlt,Array.getElem?_eq_getElem,Array.all_eq_true_iff_forall_mem] at h1;have:=h1 e he;simp [hb] at this;exact hmin _ this
   rw [h0] at this
   cases this
  rw [show u+1+(ops.size-n)=(u+(ops.size-n))+1 by omega];refine ⟨fun h0=>absurd h0 hready,fun i hi=> ?_⟩
  have hin:i<n:=by
   rcases hsc with h | ⟨hs,hc⟩
   ·obtain ⟨_,o,ho,_⟩:=mem_ready.1 hi;have:=(Array.getElem?_eq_some_iff.1 ho).1;omega
   ·rcases Nat.lt_or_ge i n with h | h
    ·exact h
    ·obtain ⟨k,hk,hu⟩:=hun
     by_cases hne:n<ops.size
     ·exact absurd hi (tail_waits hs hc hne inv _ k rfl hk (getD_in (hsz hk) hu) i h)
     ·obtain ⟨_,o,ho,_⟩:=mem_ready.1 hi;have:=(Array.getElem?_eq_some_iff.1 ho).1;omega
  obtain ⟨hiu,o,ho,hall⟩:=mem_ready.1 hi
  have hds:(ops.toList.map (·.dst))[i]? =some o.dst:=by simp [ho]
  have hdeps: ∀j∈Zs i o,j<n/\listed.getD j false=true:=fun j hj=>by
   refine ⟨by have:=Xt j hj;omega,?_⟩;simp [Zs] at hj;obtain ⟨e,⟨he,hb,_⟩,rfl⟩:=hj;exact hall e he hb
  have hcount:((List.range n).filter fun k=> !(listed.setIfInBounds i true).getD k false).length=u:=by
   have e:((List.range n).filter fun k=> !(listed.setIfInBounds i true).getD k false)=((List.range n).filter fun k=> !listed.getD k false).filter (fun k=>k≠i):=by
    rw [List.filter_filter];refine List.filter_congr fun k hk=> ?_
    by_cases hki:k=i
    ·subst hki;simp [hsz hin]
    ·rw [getD_set_ne false (fun h=>hki h.symm)];simp [hki]
   rw [e]
   have hmem:i∈(List.range n).filter fun k=> !listed.getD k false:=by
    simp only [List.mem_filter,List.mem_range,Bool.not_eq_true'];exact ⟨hin,getD_both hiu⟩
   have hnd:((List.range n).filter fun k=> !listed.getD k false).Nodup:=List.nodup_range.filter _;have:=List.Nodup.erase_eq_filter hnd i
   have e2:(((List.range n).filter fun k=> !listed.getD k false).filter (fun k=>k≠i))=((List.range n).filter fun k=> !listed.getD k false).erase i:=by
    rw [this];refine List.filter_congr fun k _=> ?_
    by_cases h:k=i<;>simp [h,bne]
   rw [e2,List.length_erase_of_mem hmem,hm]
   rfl
  have next: ∀v w',ZDe P ko F H l ms (Zx (ops.toList.map (·.dst)) vals (List.range n) (Zw ((ops.toList.map (·.dst)).take n) fr)) K (ops.toList.map (·.dst)) fr vals n ι0 w0 (listed.setIfInBounds i true) (a.put o.dst v) w'->wpAny P .any ops Q (u+(ops.size-n)) (listed.setIfInBounds i true) (a.put o.dst v) w':=fun v w' h =>
   ih _ _ w' (inv.set hi hin) hcount h
  have hiu2:listed.getD i false=false:=getD_both hiu;obtain ⟨rem,dn,L,⟨hLH,hko⟩,hnd,hrm,hst,hdn,hlt,ι,mid,gd,slot⟩:=mid
  -- a slot that this operation does not write
  have hoth: ∀ {e:Nat} {v:Value},o.dst≠some e->((a.put o.dst v).tmps).getD e undef=a.tmps.getD e undef:=fun {e v} hne=>by
   cases hdst:o.dst with
   | none=>rfl
   | some d =>
    have hne2:d≠e:=fun h=>hne (by rw [hdst,h]);simp [Act.put,Array.getD_eq_getD_getElem?,Array.getElem?_setIfInBounds_ne hne2]
  have hapart: ∀ {j e:Nat},j<n->j≠i->(ops.toList.map (·.dst))[j]? =some (some e)->o.dst≠some e:=fun {j e} hj hji hd h=>by
   have:=List.all_eq_true.1 (List.all_eq_true.1 hap i (List.mem_range.2 hin)) j (List.mem_range.2 hj);simp [hds,h,hd,Ne.symm hji] at this
  have hdm: ∀m∈ms,(ops.toList.map (·.dst))[m]? =some (ZJ l m).dst:=fun m hm=>by
   have:=(hms m hm).2.1;simp [this]
  unfold wpOp;simp only [ho]
  by_cases him:i∈ms
  ·-- a late one
   obtain ⟨_,hom,hgm,hvm⟩:=hms i him;rw [hom] at ho;simp at ho;subst ho
   have hir:i∈rem:=by
    have h1:=hst i him;rw [hiu2] at h1;simpa using h1.symm
   have hrl:i∈Yr l rem:=by
    rw [Yr,List.mem_filter];refine ⟨hir,List.all_eq_true.2 fun m' hm'=> ?_⟩
    cases hc:(Zs i (ZJ l i)).contains m' with
    | false=>rfl
    | true =>
     have h3:=(hdeps m' (by simpa using hc)).2;rw [hst m' (hrm m' hm')] at h3;simp at h3;exact absurd hm' h3
   obtain ⟨k,hk⟩: ∃k,rem.length=k+1:=⟨rem.length-1,by have:=List.length_pos_of_mem hir;omega⟩;rw [hk] at hlt;obtain ⟨R,hstep,hltR⟩:=hlt i hrl
   let ls:=(List.range n).filter fun j=>listed.getD j false
   have hls: ∀j∈ls,j<n/\listed.getD j false=true:=fun j hj=>by simpa [ls] using hj
   have hfr:=frAt (dn:=dn) (L:=L) ls hls mid slot
   have hag:UE (opR (ZJ l i).op) (Zx (ops.toList.map (·.dst)) vals ls (Zw ((ops.toList.map (·.dst)).take n) fr)) (Zx (ops.toList.map (·.dst)) vals (List.range n) (Zw ((ops.toList.map (·.dst)).take n) fr)) :=
    W0 hap hdl hvl (fun j hj=>(hls j hj).1) fun t ht j hj hd=>by
     have:=hdeps j (hrd i him t ht j hj hd);simpa [ls] using this
   have hl:=(Wm (VZ l (by rw [ZF,ZF]) hag dn)).2 hstep
   have hw:Region.wanted (ZJ l i) (yielded ops a.tmps)=true:=by simp [Region.wanted,hgm]
   rw [if_pos hw];refine .inl (WK hl gd.rel hfr fun x H' ι' v w' hk g r=> ?_);obtain ⟨hko',hlt'⟩:=hltR x H' hk;have trans: ∀ {x:V} {v:Value},RV F L ι w x v->RV F H' ι' w' x v:=fun {x v} h=>g.rv h
   have Zx: ∀m∈ms,(listed.setIfInBounds i true).getD m false=decide (m ∉ rem.erase i):=fun m hm=>by
    by_cases e:m=i
    ·subst e;simp [hsz hin,hnd.not_mem_erase]
    ·rw [getD_set_ne false (fun h=>e h.symm),hst m hm];refine decide_eq_decide.2 (not_congr ?_);rw [List.mem_erase_of_ne e]
   have hpi: ∀p∈dn,p.1≠i:=fun p hp e=>(hdn p hp).2 (e ▸ hir);refine next v w' ⟨rem.erase i,(i,x)::dn,H',⟨fun hall=>absurd (hall i him) hnd.not_mem_erase,fun k hk=>(hko' k hk).trans (hko k hk)⟩,hnd.erase i,fun m hm=>hrm m (List.mem_of_mem_erase hm),Zx,fun p hp=> ?_,?_,ι',⟨g.rel,?_,?_,fun t z ht' hnt=> ?_,fun j e z hj hlj hd hz hlt=> ?_⟩,gd.trans g,fun p hp d hd hlt=> ?_⟩
   ·rcases List.mem_cons.1 hp with rfl | hp
    ·exact ⟨him,hnd.not_mem_erase⟩
    ·exact ⟨(hdn p hp).1,fun h=>(hdn p hp).2 (List.mem_of_mem_erase h)⟩
   ·have:(rem.erase i).length=k:=by rw [List.length_erase_of_mem hir];omega
    rw [this];exact hlt'
   ·cases (ZJ l i).dst<;>simp [Act.put,mid.size]
   ·cases (ZJ l i).dst<;>exact mid.defers
   ·rw [hoth (fun e=>hnt (by
     rw [List.mem_iff_getElem?]
     exact ⟨i,by rw [List.getElem?_take_of_lt hin,hds,e]⟩))]
    exact trans (mid.old t z ht' hnt)
   ·by_cases hij:j=i
    ·subst hij;rw [hvm] at hz;simp at hz;subst hz;exact .junk _
    ·have hl':listed.getD j false=true:=by rwa [getD_set_ne false (fun h=>hij h.symm)] at hlj
     rw [hoth (hapart hj hij hd)];exact trans (mid.new j e z hj hl' hd hz hlt)
   ·rcases List.mem_cons.1 hp with rfl | hp
    ·simp only at hd;rw [hd]
     have:d<a.tmps.size:=by rw [mid.size];exact hlt
     have e2:((a.put (some d) v).tmps).getD d undef=v:=by simp [Act.put,Array.getD,this]
     rw [e2];exact r
    ·have hpm:=(hdn p hp).1;rw [hoth (hapart (hms _ hpm).1 (hpi p hp) (by rw [hdm _ hpm,hd]))];exact g.rv (slot p hp d hd hlt)
  ·-- another
   have hil:i<l.length:=by have:=(Array.getElem?_eq_some_iff.1 ho).1;rw [<- hol];simpa using this
   have hlo:ZJ l i=o:=by
    have e:ops[i]? =some (ZJ l i):=by
     rw [<- Array.getElem?_toList,hol,Vy,List.getD_eq_getElem?_getD,List.getElem?_eq_getElem hil];rfl
    rw [ho] at e;simpa using e.symm
   have hokL:ZfI P (ops.toList.map (·.dst)) (Zw ((ops.toList.map (·.dst)).take n) fr) L vals i o:=by
    by_cases hall: ∀m∈ms,m∈rem
    ·rw [hLH hall];exact hok i o hin him ho
    ·rcases (hev i hin him).symm with h | h
     ·exact Zn5 (by rw [<- hlo];exact h) hko (hok i o hin him ho)
     rcases h with h | h
     ·exact Jv (by rw [<- hlo];exact h) (hok i o hin him ho)
     ·exfalso;refine hall fun m hm=>Classical.byContradiction fun hnr=> ?_;have h1:=hst m hm;rw [decide_eq_true hnr] at h1
      have hml:m<l.length:=by have:=(Array.getElem?_eq_some_iff.1 (hms m hm).2.1).1;rw [<- hol];simpa using this
      have:=Wi hol inv n i m hml (h m hm) fun j hj=>by
       simp [Zs] at hj;obtain ⟨e,⟨he,hb,_⟩,rfl⟩:=hj;exact inv.closed m _ (hms m hm).2.1 h1 e he hb
      rw [hiu2] at this;cases this
   obtain ⟨z,hz,hok'⟩:=hokL;have hfr:=mid.fr _ hdeps
   have next': ∀ι' v w',Good F L ι w L ι' w'->RV F L ι' w' z v->wpAny P .any ops Q (u+(ops.size-n)) (listed.setIfInBounds i true) (a.put o.dst v) w':=fun ι' v w' g r=>by
    refine next v w' ⟨rem,dn,L,⟨hLH,hko⟩,hnd,hrm,fun m hm=> ?_,hdn,hlt,ι',mid.put hap g hin hds hz r,gd.trans g,fun p hp d hd hlt=> ?_⟩
    ·rw [getD_set_ne false (fun (e:i=m)=>him (e ▸ hm))];exact hst m hm
    ·have hpm:=(hdn p hp).1;rw [hoth (hapart (hms _ hpm).1 (fun h=>him (h ▸ hpm)) (by rw [hdm _ hpm,hd]))];exact g.rv (slot p hp d hd hlt)
   have run:Zr P o (Zx (ops.toList.map (·.dst)) vals (Zs i o) (Zw ((ops.toList.map (·.dst)).take n) fr)) L (fun x H'=>x=z/\H'=L)->o.wp P a w (wpAny P .any ops Q (u+(ops.size-n)) (listed.setIfInBounds i true)) Q:=fun h =>
    Ug h mid.rel hfr fun x H' ι' v w' hk g r=>by
     obtain ⟨rfl,rfl⟩:=hk;exact next' ι' v w' g r
   split at hok'
   ·rename_i hg
    have hw:Region.wanted o (yielded ops a.tmps)=true:=by simp [Region.wanted,hg]
    rw [if_pos hw];exact .inl (run hok')
   ·rename_i j b hg;rcases hok' with ⟨c,hc,h1,h2⟩ | ⟨hc,hyt⟩
    rotate_left
    ·have hyl:=XF hfr hc
     have hw: ¬(Region.wanted o (yielded ops a.tmps)=true):=by simp [Region.wanted,hg,hyl]
     rw [if_neg hw];exact next' ι undef w (Good.refl mid.rel) (by rw [hyt];exact X8)
    have hyl:=Yi hfr hc
    by_cases hcb:c=b
    ·have hw:Region.wanted o (yielded ops a.tmps)=true:=by simp [Region.wanted,hg,hyl,hcb]
     rw [if_pos hw];exact .inl (run (h1 hcb))
    ·have hw: ¬(Region.wanted o (yielded ops a.tmps)=true):=by simp [Region.wanted,hg,hyl,hcb]
     rw [if_neg hw];exact next' ι undef w (Good.refl mid.rel) (by rw [h2 hcb];exact X8)
def ldP (o:Oper):Option Nat:=match o.op with | .load _ (.tmp p)=>if o.guard.isNone=true then some p else none | .fieldAddr _ (.tmp p) _=>if o.guard.isNone=true then some p else none | .indexAddr _ (.tmp p) _=>if o.guard.isNone=true then some p else none | .nilCheck (.tmp p)=>if o.guard.isNone=true then some p else none | _=>none
def evC (l:List Oper) (n:Nat) (ms ks:List Nat):Bool:=(List.range n).all fun i=>ms.contains i||WO (ZJ l i).op||(ms.all fun m=>Jk l n i m)||(ks.contains i&&match ldP (ZJ l i) with
 | some p=>(List.range n).all fun j=>match (l.map (·.dst))[j]? with | some (some d)=>decide (d≠p)||(Zs i (ZJ l i)).contains j | _=>true
 | none=>false)
theorem Km (ms ks ko:List Nat) {P:Program} {id:Nat} {l:List Oper} {fr:List V} {H:List Obj} {Q:Exit->List V->List Obj->Prop} {t} (n:Nat) (hm:P.follows .mixedOrders=true) (hB:Wa (List.toArray l) n=true) (hR:Q3 (List.toArray (VD ms l)) n=true) (hL:Kk l n ms=true) (hE:evC l n ms ks=true) (hfl:fr.length<=1000000)
  (h:hs P (l.map (·.dst)) H (Zv (fun fr'=>(∀k∈ks,∀p,ldP (ZJ l k)=some p->ZjC ko (gt (idF fr') p))/\Zar P ko l ms.length ms (idF fr') H (Zv (fun fr2 L=>YB P (l.map (·.dst)) (l.drop n) fr2 L (Zv (Q .normal) ⟨⟩)) ⟨⟩)) ⟨⟩) ((VD ms l).take n) (idF fr)) :
  AWP P (.region id (Zv (List.toArray l) t) true) fr H Q:=fun F ι a w hr hf=>by
 refine wp_region_any hm ?_;have hB':=hB;simp only [Wa,Bool.and_eq_true,decide_eq_true_eq] at hB';obtain ⟨⟨⟨⟨hn,_⟩,_⟩,hap⟩,_⟩:=hB'
 have hn2:n<=l.length:=by simpa using hn
 simp only [Kk,Bool.and_eq_true,List.all_eq_true,decide_eq_true_eq] at hL;obtain ⟨hL1,hL3⟩:=hL;have hds:(VD ms l).map (·.dst)=l.map (·.dst):=Qj ms l;have hh:=Zh2 (P:=P) (H:=H) (ops:=List.toArray (VD ms l)) (n:=n) (fr:=fr) (K:=fun fr'=>(∀k∈ks,∀p,ldP (ZJ l k)=some p->ZjC ko (gt fr' p))/\Zar P ko l ms.length ms fr' H (fun fr2 L=>YB P (l.map (·.dst)) (l.drop n) fr2 L (Q .normal))) (by simpa [Qq] using hn2) (by simpa [hds] using hap) hR _ 0 [] (Nat.zero_le _) rfl (by simp;rfl) (by simpa [hds,Zx,Zv,idF] using h);obtain ⟨ys,h1,⟨h2a,h2b⟩,h3⟩:=V2 _ 0 [] rfl hh
 simp only [List.nil_append,hds] at h2a h2b h3;have hlen:ys.length=n:=h2a;have g0:=Good.drew hr;have hf0:=g0.fr hf;have hget: ∀k,k<n->((VD ms l).take n)[k]? =(VD ms l)[k]? :=fun k hk=>List.getElem?_take_of_lt hk;have hjl:(Zw ((l.map (·.dst)).take n) fr).length=fr.length:=ZH _ _
 have hlat: ∀m∈ms,m<n/\l[m]? =some (ZJ l m)/\(ZJ l m).guard=none:=fun m hm=>by
  obtain ⟨⟨h4,h5⟩,h6,_⟩:=hL1 m hm;exact ⟨h4,by rw [Vy,List.getD_eq_getElem?_getD,List.getElem?_eq_getElem h5];rfl,by simpa using h6⟩
 have hvm: ∀m∈ms,ys[m]? =some .junk:=fun m hm=>by
  obtain ⟨q1,q2,q3⟩:=hlat m hm;obtain ⟨z,hy,hk⟩:=h3 m (W6 (ZJ l m)) (by rw [hget _ q1];exact Jy ms l _ _ hm q2);rw [Nat.zero_add] at hy;have e1:(W6 (ZJ l m)).guard=none:=q3;rw [e1] at hk;simp only [W6,Zr,Zt,Xe,XI,aop,ZB] at hk
  have hk2:gt (Zx (l.map (·.dst)) ys (Zs (0+m) { ZJ l m with op:= .move (.tmp 1000000) }) (Zw ((l.map (·.dst)).take n) fr)) 1000000=z:=by simpa [ev] using hk
  rw [ZdM (by rw [ZF,hjl];exact hfl)] at hk2;rw [hy,hk2]
 have hfin:Zx (l.map (·.dst)) ys (List.range n) (Zw ((l.map (·.dst)).take n) fr)=Zx (l.map (·.dst)) ys (List.range n) fr:=Qy hap (by simpa using hn2) hlen
 have:=Zdb (ko:=ko) (Q:=fun e a' w'=> ∃fr' H' ι',Q e fr' H'/\Good F H ι w H' ι' w'/\Fr F H' ι' w' fr' a') (F:=F) (fr:=fr) (vals:=ys) (P:=P) (H:=H) (l:=l) (ms:=ms) (K:=fun fr2 L=>YB P (l.map (·.dst)) (l.drop n) fr2 L (Q .normal)) (ops:=List.toArray l) (ι0:=ι) (w0:= { w with drawn:=w.drawn+1 }) rfl hB hlen
  (fun m hm=>⟨(hlat m hm).1,by simpa using (hlat m hm).2.1,(hlat m hm).2.2,hvm m hm⟩)
  (fun m hm t ht j hj hd=>by
   obtain ⟨_,_,h5⟩:=hL1 m hm;have h6:=h5 t ht j (List.mem_range.2 hj);simp only at hd;rw [hd] at h6
   simpa using h6)
  (fun i hi him=>by
   have:=List.all_eq_true.1 hE i (List.mem_range.2 hi);rw [Bool.or_eq_true,Bool.or_eq_true,Bool.or_eq_true] at this;rcases this with h | h
   ·rcases h with h | h
    ·rcases h with h | h
     ·exact absurd (by simpa using h) him
     ·exact .inl (.inl h)
    ·exact .inl (.inr fun m hm=>List.all_eq_true.1 h m hm)
   ·right
    rw [Bool.and_eq_true] at h;obtain ⟨hk,h⟩:=h
    split at h
    rotate_left
    ·cases h
    rename_i p hp;have ho:=h2b.1 i (by simpa using hk) p hp
    have hgo:(ZJ l i).guard=none/\((∃u,(ZJ l i).op= .load u (.tmp p))\/(∃s f,(ZJ l i).op= .fieldAddr s (.tmp p) f)\/(∃t q,(ZJ l i).op= .indexAddr t (.tmp p) q)\/(ZJ l i).op= .nilCheck (.tmp p)):=by
     unfold ldP at hp
     split at hp
     ·rename_i u q hop
      split at hp
      ·rename_i hg;simp at hp;subst hp;exact ⟨by simpa using hg,.inl ⟨u,hop⟩⟩
      ·cases hp
     ·rename_i u q f hop
      split at hp
      ·rename_i hg;simp at hp;subst hp;exact ⟨by simpa using hg,.inr (.inl ⟨u,f,hop⟩)⟩
      ·cases hp
     ·rename_i u q f hop
      split at hp
      ·rename_i hg;simp at hp;subst hp;exact ⟨by simpa using hg,.inr (.inr (.inl ⟨u,f,hop⟩))⟩
      ·cases hp
     ·rename_i q hop
      split at hp
      ·rename_i hg;simp at hp;subst hp;exact ⟨by simpa using hg,.inr (.inr (.inr hop))⟩
      ·cases hp
     ·cases hp
    refine ⟨hgo.1,p,hgo.2,?_⟩
    have hag:=W0 (fr:=fr) (vals:=ys) (ls:=Zs i (ZJ l i)) (R:= [p]) hap (by simpa using hn2) hlen (fun j hj=>by have:=Xt j hj;omega) fun t ht j hj hd=>by
     have h5:=List.all_eq_true.1 h j (List.mem_range.2 hj);simp at ht;subst ht;rw [hd] at h5;simpa using h5
    rw [hag p (by simp),hfin]
    exact ho)
  (fun i o hi him ho=>by
   have:=h3 i o (by
    rw [hget i hi,VU]
    ·simpa using ho
    ·exact him)
   rwa [Nat.zero_add] at this)
  (fun fr2 L ι1 a1 w1 k1 g1 f1=>ZN (P:=P) (ops:=List.toArray l) _ _ L _ k1 F ι1 a1 w1 g1.rel f1 fun fr' H' ι' a' w' k g f=>⟨fr',H',ι',k,g0.trans (g1.trans g),f⟩)
  n (Array.replicate l.length false) a { w with drawn:=w.drawn+1 }
  ⟨by simp,fun j oj _ hl=>(by rw [getD_replicate_false] at hl;cases hl),fun t _ ht=>getD_in (by simpa using ht) (getD_replicate_false _ _)⟩
  (by
   rw [List.filter_eq_self.2 (fun i _=>by rw [getD_replicate_false];rfl)]
   simp)
  ⟨ms,[],H,⟨fun _=>rfl,fun _ _=>rfl⟩,hL3,fun m hm=>hm,fun m hm=>by rw [getD_replicate_false];simp [hm],fun p hp=>(by cases hp),by
    simp only [ptl];rw [hfin]
    exact h2b.2,ι,⟨g0.rel,hf0.1,hf0.2.1,fun t x ht _=>hf0.2.2 t x ht,fun j d x _ hl=>by rw [getD_replicate_false] at hl;cases hl⟩,Good.refl g0.rel,fun p hp=>(by cases hp)⟩
 simp only [List.size_toArray] at this;simp only [Zv,List.size_toArray];rwa [show n+(l.length-n)=l.length by omega] at this
theorem Zgr {P ko l rem fr H K} (h:K fr H):Zar P ko l 0 rem fr H K:=h
theorem Zbx {P ko l n rem fr H K} (m:Nat) (R:V->List Obj->Prop) (hr:Yr l rem= [m]) (h:Zt P (ZJ l m) fr H R) (k: ∀y H',R y H'->(∀k∈ko,oat H' k=oat H k)/\Zar P ko l n (rem.erase m) (ptO fr (ZJ l m).dst y) H' K):Zar P ko l (n+1) rem fr H K:=fun m' hm'=>by
 rw [hr,List.mem_singleton] at hm';subst hm';exact ⟨R,h,k⟩
end Go.AM
