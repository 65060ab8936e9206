/- Declarations that the closing texts need, part 8: joined by tools/slim.py. -/
import Derived.Test.YtcpmilhkineciaaGreatDoorZ7
import Derived.Laws.IdiomCopy
set_option linter.unusedVariables false
set_option linter.unusedSimpArgs false
namespace Go.AM
open Go.RowKit
theorem Zbg {P:Program} {o:Oper} {fr:List V} {H:List Obj} {t t2 e:TypeId} {x y:Operand} {ob n:Nat} {c:Bool} {xs ys:List PV} (h:o.op= .call { callee:= .builtin .copy,args:= #[x,y],argTypes:= #[t,t2] })
  (hu:P.underlying t=some (.slice e)) (hs:(P.info? e).map (·.size)=some 1) (hx:ev fr x= .sl ob 0 n n) (hy:ev fr y= .p (.list c ys)) (hH:H[ob]? =some (.elems 1 xs)) (hn:xs.length=n) (hle:ys.length<=n) (hone: ∀q∈ys,q.one=true) :
  OpS P o fr H (.p (.int .i64 (ys.length:Nat))) (H.set ob (.elems 1 (ys++xs.drop ys.length))):=fun F ι a w hr hf=>by
 have h1:=hf.ev x;have h2:=hf.ev y;rw [hx] at h1;rw [hy] at h2
 cases h2 with | p _ _ h2 =>
 have hgo: ∀k:Nat,goInt k= .int .i64 (k:Int):=fun k=>rfl
 have same:ys= []->H.set ob (.elems 1 (ys++xs.drop ys.length))=H:=fun h=>by subst h;simpa using V2 hH
 have none': ∀(d s:Option Addr) (dl dc sl sc:Nat),a.eval x= .slice d dl dc->a.eval y= .slice s sl sc->Nat.min sl dl=0->ys= [] ->
   ∃nx v ι' w',(execOp a.eval o).run P w= .ok nx w'/\(nx= .value v\/(nx= .skip/\v=undef))/\Good F H ι w (H.set ob (.elems 1 (ys++xs.drop ys.length))) ι' w'/\RV F (H.set ob (.elems 1 (ys++xs.drop ys.length))) ι' w' (.p (.int .i64 (ys.length:Nat))) v:=fun d s dl dc sl sc e1 e2 h0 hys=>by
  have hrun:=run_copy_none (P:=P) w t t2 o.type e d s dl dc sl sc hu hs h0;rw [same hys];subst hys;exact ⟨_,.int .i64 0,ι,w,by simp [execOp,h,resolve,invoke,builtin,e1,e2,hrun,hgo];rfl,.inl rfl,Good.refl hr,.p _ _ (.int _ _)⟩
 generalize hxe:a.eval x=vx at h1;generalize hye:a.eval y=vy at h2
 cases h1 with
 | slNil _ S ad hi hH2 =>
  rw [hH] at hH2;simp at hH2;obtain ⟨rfl,rfl⟩:=hH2;have hys:ys= []:=List.eq_nil_of_length_eq_zero (by omega)
  cases h2 with
  | nils=>exact none' _ _ _ _ _ _ hxe hye (by simp [Nat.min_def]) hys
  | emp=>exact none' _ _ _ _ _ _ hxe hye (by simp [Nat.min_def]) hys
  | list=>exact none' _ _ _ _ _ _ hxe hye (by simp [Nat.min_def]) hys
 | sl _ _ _ _ b S cap ty xs2 cc hb hH2 ht hw hcap hl hlen hm =>
  rw [hH] at hH2;simp at hH2;obtain ⟨rfl,rfl⟩:=hH2;rcases hr.elm ob 1 xs hH with ⟨e1,e2⟩ | ⟨b2,c2,t3,cap2,f1,f2,f3,f4,f5,f6,f7⟩
  ·rw [e1] at hb;cases hb
  ·have:b2=b:=by rw [hb] at f1;simpa using f1.symm
   subst this;rw [hw] at f2;simp at f2;obtain ⟨rfl,rfl⟩:=f2
   have hkey: ∀(sa:Addr) (sc:Nat) (us:List Value),a.eval y= .slice (some sa) ys.length sc->us.length=ys.length->(∀j v,us[j]? =some v->w.cell? (sa.add j)=some v)->(∀v∈us,v.oneCell'=true)->(∀(j:Nat) (q:PV),ys[j]? =some q->RP (Own F ι) w q (us.getD j undef)) ->
     ∃nx v ι' w',(execOp a.eval o).run P w= .ok nx w'/\(nx= .value v\/(nx= .skip/\v=undef))/\Good F H ι w (H.set ob (.elems 1 (ys++xs.drop ys.length))) ι' w'/\RV F (H.set ob (.elems 1 (ys++xs.drop ys.length))) ι' w' (.p (.int .i64 (ys.length:Nat))) v:=fun sa sc us he hul hcell hone' hrp=>by
    have hmin:us.length=Nat.min ys.length n:=by rw [hul];exact (Nat.min_eq_left hle).symm
    have hrun:=run_copy_row P w t t2 o.type e b2 0 n cap sa ys.length sc cc ty us hu hs hw hmin hcell (by omega) hone';have hT:Turned w (w.setRow b2 (cc.toList.take 0++us++cc.toList.drop (0+us.length)).toArray) b2 _ ty:=Turned.setRow hw
    have hsz:(cc.toList.take 0++us++cc.toList.drop (0+us.length)).toArray.size=cc.size:=by simp;omega
    have g:=Z1 (w':=w.setRow b2 (cc.toList.take 0++us++cc.toList.drop (0+us.length)).toArray) (cap:=cap2) (xs':=ys++xs.drop ys.length) hr hH hT.os hT.tape hT.output
     (fun c0 t0 hc0=>by rw [hw] at hc0;simp at hc0;obtain ⟨rfl,rfl⟩:=hc0;exact ⟨rfl,hsz⟩) (by rw [hT.size];exact Nat.le_refl _) hT.at' (fun k _ hk=>hT.other k hk)
     (.inl ⟨hb,.inl ⟨by simp;omega,fun c0 t0 hc0=>by rw [hw] at hc0;simp at hc0;obtain ⟨rfl,rfl⟩:=hc0;exact ⟨rfl,hsz⟩⟩⟩) (by rw [hsz];exact f3) (by simp;omega) f5
     (fun i q hi=>by
      by_cases hlt:i<ys.length
      ·rw [List.getElem?_append_left hlt] at hi;rw [PV.cells_one (hone q (List.mem_of_getElem? hi))];rfl
      ·rw [List.getElem?_append_right (by omega),List.getElem?_drop] at hi
       exact f6 _ q hi)
     (fun i q j z hi hj=>by
      have hq1:q.cells.length=1:=by
       by_cases hlt:i<ys.length
       ·rw [List.getElem?_append_left hlt] at hi;rw [PV.cells_one (hone q (List.mem_of_getElem? hi))];rfl
       ·rw [List.getElem?_append_right (by omega),List.getElem?_drop] at hi;exact f6 _ q hi
      have hj0:j=0:=by have:=(List.getElem?_eq_some_iff.1 hj).1;omega
      subst hj0
      by_cases hlt:i<ys.length
      ·rw [List.getElem?_append_left hlt] at hi;have hq:=hone q (List.mem_of_getElem? hi);rw [PV.cells_one hq] at hj;simp at hj;subst hj
       have e1:(cc.toList.take 0++us++cc.toList.drop (0+us.length)).toArray.getD (i*1+0) undef=us.getD i undef:=by
        simp [Array.getD_eq_getD_getElem?,List.getElem?_append_left (show i<us.length by omega),List.getD_eq_getElem?_getD]
       rw [e1];exact hrp i q hi
      ·rw [List.getElem?_append_right (by omega),List.getElem?_drop] at hi;have:=f7 _ q 0 z hi hj
       have e1:(cc.toList.take 0++us++cc.toList.drop (0+us.length)).toArray.getD (i*1+0) undef=cc.getD ((ys.length+(i-ys.length))*1+0) undef:=by
        simp only [Array.getD_eq_getD_getElem?,List.getElem?_toArray,List.take_zero,List.nil_append,Nat.zero_add,Nat.mul_one,Nat.add_zero];rw [List.getElem?_append_right (by omega),List.getElem?_drop,hul];simp
       rw [e1];exact this)
    have hio:ι.set ob (some b2)=ι:=by
     refine List.ext_getElem? fun i=> ?_;rw [List.getElem?_set]
     split
     ·rename_i hi;subst hi;split
      ·exact hb.symm
      ·rename_i hge;rw [List.getElem?_eq_none (by omega)]
     ·rfl
    rw [hio] at g;exact ⟨_,.int .i64 (ys.length:Nat),ι,_,by simp [execOp,h,resolve,invoke,builtin,hxe,he,hrun,hgo,hul],.inl rfl,g,.p _ _ (.int _ _)⟩
   cases h2 with
   | nils=>exact none' _ _ _ _ _ _ hxe hye (by simp [Nat.min_def]) rfl
   | emp=>exact none' _ _ _ _ _ _ hxe hye (by simp [Nat.min_def]) rfl
   | list _ _ b3 off cap3 S3 u hX hb3 hc3 hm3 hcl hS hu3 hr3 =>
    have hcell: ∀(j:Nat) (q:PV),ys[j]? =some q->w.cell? ⟨b3,off+j,none⟩=some (u j 0)/\RP (Own F ι) w q (u j 0):=fun j q hq=>by
     have h1:=hone q (List.mem_of_getElem? hq)
     have hS1:S3=1:=by rw [<- hS j q hq,PV.cells_one h1];rfl
     have e1:=hu3 j q 0 q hq (by rw [PV.cells_one h1];rfl);rw [hS1] at e1;exact ⟨by simpa using e1,hr3 j q 0 q hq (by rw [PV.cells_one h1];rfl)⟩
    refine hkey ⟨b3,off,none⟩ cap3 ((List.range ys.length).map fun i=>u i 0) hye (by simp) (fun j v hj=> ?_) (fun v hv=> ?_) (fun j q hq=> ?_)
    ·rw [Addr.add_lit];simp only [List.getElem?_map,Option.map_eq_some_iff] at hj;obtain ⟨i,hi,rfl⟩:=hj
     have hlt:j<ys.length:=by have:=(List.getElem?_eq_some_iff.1 hi).1;simpa using this
     rw [List.getElem?_range hlt] at hi;simp at hi;subst hi;exact (hcell j ys[j] (by simp)).1
    ·obtain ⟨i,hi,rfl⟩:=List.mem_map.1 hv
     have hlt:i<ys.length:=by simpa using hi
     exact (hcell i ys[i] (by simp)).2.oneCell (hone _ (List.getElem_mem hlt))
    ·have hlt:=(List.getElem?_eq_some_iff.1 hq).1
     have:((List.range ys.length).map fun i=>u i 0).getD j undef=u j 0:=by simp [List.getD_eq_getElem?_getD,List.getElem?_range hlt]
     rw [this];exact (hcell j q hq).2

 | slD _ _ _ _ _ hd=>rw [hH] at hd;cases hd
 | slS _ _ _ _ _ S2 xs2 hd hne=>rw [hH] at hd;simp at hd;obtain ⟨_,rfl⟩:=hd;omega
 | slC _ _ _ _ _ _ hd=>rw [hH] at hd;cases hd
theorem ZfC (n:Nat) {P:Program} {id:Nat} {l:List Oper} {o:Oper} {fr:List V} {H:List Obj} {Q:Exit->List V->List Obj->Prop} (ho:l=l.take n++o::l.drop (n+1)) (hg:o.guard=none)
  (h:Yo P (l.map (·.dst)) (l.take n) fr H fun fr' H'=> ∃y H2,OpS P o fr' H' y H2/\Yo P (l.map (·.dst)) (l.drop (n+1)) (ptO fr' o.dst y) H2 (Q .normal)):AWP P (.region id (List.toArray l) false) fr H Q:=by
 intro F ι a w hr hf;refine wp_region_list ?_;have key:=Xu (P:=P) (ops:=List.toArray l) (Q:=fun e a' w'=> ∃fr' H' ι',Q e fr' H'/\Good F H ι w H' ι' w'/\Fr F H' ι' w' fr' a') (r:=o::l.drop (n+1)) (l.take n) fr H _ (by simpa using h) F ι a w hr hf ?_
 ·rw [<- ho] at key;simpa using key
 ·rintro fr' H' ι' a' w' ⟨y,H2,hp,hk⟩ g f;simp only [wpList]
  have hw:Region.wanted o (yielded (List.toArray l) a'.tmps)=true:=by simp [Region.wanted,hg]
  rw [if_pos hw];refine .inl ?_;refine Zh1 hp g.rel f fun ι2 v w2 g2 hrv=> ?_;exact Z4 (P:=P) (ops:=List.toArray l) _ _ H2 _ (by simpa using hk) F ι2 _ w2 g2.rel ((g2.fr f).put o.dst hrv) fun fr2 H3 ι3 a3 w3 k3 g3 f3=>⟨fr2,H3,ι3,k3,(g.trans g2).trans g3,f3⟩
def ptl (l:List Oper):List (Nat×V)->List V->List V
 | [],fr=>fr
 | (m,y)::dn,fr=>ptO (ptl l dn fr) (Z0 l m).dst y
theorem Vr (l:List Oper): ∀(dn:List (Nat×V)) (fr:List V),(ptl l dn fr).length=fr.length
 | [],_=>rfl
 | (m,y)::dn,fr=>by rw [ptl,ZjJ,Vr l dn fr]
theorem Zap (l:List Oper) {x:V} {t:Nat} : ∀(dn:List (Nat×V)) (fr:List V),(ptl l dn fr)[t]? =some x->(∃p,p∈dn/\(Z0 l p.1).dst=some t/\x=p.2/\t<fr.length)\/fr[t]? =some x
 | [],_,h=> .inr h
 | (m,y)::dn,fr,h=>by
  rcases ZjM h with ⟨h1,h2,h3⟩ | ⟨_,h2⟩
  ·exact .inl ⟨(m,y),by simp,h1,h2,by rw [Vr] at h3;exact h3⟩
  ·rcases Zap l dn fr h2 with ⟨p,h3,h4⟩ | h3
   ·exact .inl ⟨p,by simp [h3],h4⟩
   ·exact .inr h3
theorem UP (l:List Oper) {R:List Nat} {f1 f2:List V} (hl:f1.length=f2.length) (h:YZ R f1 f2): ∀dn,YZ R (ptl l dn f1) (ptl l dn f2)
 | []=>h
 | (m,y)::dn=>fun t ht=>by
  have ih:=UP l hl h dn t ht
  have hl2:(ptl l dn f1).length=(ptl l dn f2).length:=by rw [Vr,Vr,hl]
  simp only [ptl]
  cases (Z0 l m).dst with
  | none=>exact ih
  | some d =>
   simp only [ptO,Wo,ZeO] at ih ⊢;rw [List.getElem?_set,List.getElem?_set]
   split
   ·rw [hl2]
   ·exact ih
def Y8 (l:List Oper) (rem:List Nat):List Nat:=rem.filter fun m=>rem.all fun m'=> !(Zw m (Z0 l m)).contains m'
def VE (P:Program) (H:List Obj) (l:List Oper):Nat->List Nat->List V->List Obj->(List V->List Obj->Prop)->Prop
 | 0,_,fr,L,K=>K fr L
 | n+1,rem,fr,L,K=> ∀m∈Y8 l rem,∃y L',Zq P (Z0 l m) fr (H++L) (fun x H'=>x=y/\H'=H++L')/\VE P H l n (rem.erase m) (ptO fr (Z0 l m).dst y) L' K
def Zym (P:Program) (F:Nat->Prop) (H:List Obj) (l:List Oper) (ms:List Nat) (bs:List V) (K:List V->List Obj->Prop) (ds:List (Option Nat)) (fr vals:List V) (n:Nat) (ι0:List (Option Nat)) (w0:World) (listed:Array Bool) (a:Act) (w:World):Prop :=
 ∃(rem:List Nat) (dn:List (Nat×V)) (L:List Obj),rem.Nodup/\(∀m∈rem,m∈ms)/\(∀m∈ms,listed.getD m false=decide (m ∉ rem))/\(∀p∈dn,p.1∈ms/\p.1 ∉ rem)/\VE P H l rem.length rem (ptl l dn bs) L K /\
  ∃ι ιL,ι.length=H.length/\Mid (Own F ιL) H ds fr vals n listed ι a w/\Good F H ι0 w0 (H++L) (ι++ιL) w /\
   ∀p∈dn,∀d,(Z0 l p.1).dst=some d->d<fr.length->RV F (H++L) (ι++ιL) w p.2 (a.tmps.getD d undef)
theorem Zaj {P:Program} {ops:Array Oper} {Q:Exit->Act->World->Prop} {F H fr vals} {n:Nat} {l:List Oper} {ms:List Nat} {K:List V->List Obj->Prop} (hol:ops.toList=l) (hB:YY ops n=true) (hvl:vals.length=n)
  (hms: ∀m∈ms,m<n/\ops[m]? =some (Z0 l m)/\(Z0 l m).guard=none/\vals[m]? =some .junk)
  (hrd: ∀m∈ms,∀t∈opR (Z0 l m).op,∀j,j<n->(ops.toList.map (·.dst))[j]? =some (some t)->j∈Zw m (Z0 l m))
  (hok: ∀(i:Nat) (o:Oper),i<n->i ∉ ms->ops[i]? =some o->ZfO P (ops.toList.map (·.dst)) (ZU ((ops.toList.map (·.dst)).take n) fr) H vals i o) {ι0 w0}
  (ht: ∀fr' L ι a w,K fr' L->Good F H ι0 w0 (H++L) ι w->Fr F (H++L) ι w fr' a->wpList P ops Q (ops.toList.drop n) a w) :
  ∀(u:Nat) (listed:Array Bool) (a:Act) (w:World),HeadInv .any ops n listed->((List.range n).filter fun i=> !listed.getD i false).length=u ->
   Zym P F H l ms (ZV (ops.toList.map (·.dst)) vals (List.range n) (ZU ((ops.toList.map (·.dst)).take n) fr)) K (ops.toList.map (·.dst)) fr vals n ι0 w0 listed a w->wpAny P .any ops Q (u+(ops.size-n)) listed a w:=by
 simp only [YY,Bool.and_eq_true,decide_eq_true_eq,Bool.or_eq_true] at hB;obtain ⟨⟨⟨⟨hn,hsc⟩,hea⟩,hap⟩,hseq⟩:=hB
 have hdl:n<=(ops.toList.map (·.dst)).length:=by simpa using hn
 -- the frame at late operations done, azs far azs is listed
 have frAt: ∀ {dn:List (Nat×V)} {L:List Obj} {listed:Array Bool} {ι ιL:List (Option Nat)} {a:Act} {w:World} (ls:List Nat),(∀j∈ls,j<n/\listed.getD j false=true)->Mid (Own F ιL) H (ops.toList.map (·.dst)) fr vals n listed ι a w ->
   (∀p∈dn,∀d,(Z0 l p.1).dst=some d->d<fr.length->RV F (H++L) (ι++ιL) w p.2 (a.tmps.getD d undef)) ->
   Fr F (H++L) (ι++ιL) w (ptl l dn (ZV (ops.toList.map (·.dst)) vals ls (ZU ((ops.toList.map (·.dst)).take n) fr))) a:=fun {dn L listed ι ιL a w} ls hls mid slot=>by
  obtain ⟨f1,f2,f3⟩:=mid.fr ls hls;refine ⟨by rw [Vr];exact f1,f2,fun t x hx=> ?_⟩;rcases Zap l dn _ hx with ⟨p,h1,h2,rfl,h4⟩ | h1
  ·exact slot p h1 t h2 (by rw [ZY,ZP] at h4;exact h4)
  ·exact (f3 t x h1).widen
 intro u
 induction u with
 | zero =>
  intro listed a w inv hm mid
  have XW: ∀i,i<n->listed.getD i false=true:=fun i hi=>by
   have h0:=List.eq_nil_of_length_eq_zero hm
   have:i ∉ (List.range n).filter fun i=> !listed.getD i false:=by rw [h0];simp
   simp only [List.mem_filter,List.mem_range,not_and,Bool.not_eq_true',Bool.not_eq_false] at this;exact this hi
  have hl:listed=Array.replicate n true++Array.replicate (ops.size-n) false:=by
   refine Array.ext (by simp [inv.size];omega) fun i h1 h2=> ?_
   by_cases hi:i<n
   ·have:=XW i hi;rw [Array.getElem_append_left (by simpa using hi)];simp [h1] at this;simp [this]
   ·have:=inv.tail i (by omega) (by rw [<- inv.size];exact h1);rw [Array.getElem_append_right (by simp;omega)];simp [h1] at this;simp [this]
  obtain ⟨rem,dn,L,hnd,hrm,hst,hdn,hlt,ι,ιL,hιl,mid,gd,slot⟩:=mid
  have hs:rem= []:=by
   cases rem with
   | nil=>rfl
   | cons m r =>
    have h1:=hst m (hrm m (by simp));rw [XW _ (hms m (hrm m (by simp))).1] at h1;simp at h1
  subst hs;have hw:=ht _ L (ι++ιL) a w hlt gd (frAt (List.range n) (fun j hj=>⟨List.mem_range.1 hj,XW j (List.mem_range.1 hj)⟩) mid slot);have:=wpAny_of_seq (md:= .any) (Q':=Q) (ops.toList.drop n) n listed a w (fun j=>by simp [List.getElem?_drop]) (by rw [hl];simpa using hseq) hw;simpa using this
 | succ u ih =>
  intro listed a w inv hm mid
  have hun: ∃i,i<n/\listed.getD i false=false:=by
   cases hf:(List.range n).filter fun i=> !listed.getD i false with
   | nil=>rw [hf] at hm;simp at hm
   | cons i l =>
    have:i∈(List.range n).filter fun i=> !listed.getD i false:=by rw [hf];simp
    simp only [List.mem_filter,List.mem_range,Bool.not_eq_true'] at this;exact ⟨i,this⟩
  have hsz: ∀ {i},i<n->i<listed.size:=fun h=>by rw [inv.size];omega
  have hready:Region.ready .any ops listed≠ []:=by
   obtain ⟨i,hi,hu⟩:=hun
   have: ∃i,i<n/\listed.getD i false=false/\ ∀j,j<i->listed.getD j false=true:=by
    induction i using Nat.strongRecOn with
    | _ i ihh =>
     by_cases hex: ∃j,j<i/\listed.getD j false=false
     ·obtain ⟨j,hj,hju⟩:=hex;exact ihh j hj (by omega) hju
     ·exact ⟨i,hi,hu,fun j hj=>by
       cases hb:listed.getD j false with
       | true=>rfl
       | false=>exact absurd ⟨j,hj,hb⟩ hex⟩
   obtain ⟨i,hi,hu,hmin⟩:=this;intro h0
   have:i∈Region.ready .any ops listed:=by
    have hlt:i<ops.size:=by omega
    refine mem_ready.2 ⟨getD_in (hsz hi) hu,ops[i],by simp [hlt],fun e he hb=> ?_⟩;have h1:=List.all_eq_true.1 hea i (List.mem_range.2 hi);simp only [hlt,Array.getElem?_eq_getElem,Array.all_eq_true_iff_forall_mem] at h1;have:=h1 e he;simp [hb] at this;exact hmin _ this
   rw [h0] at this
   cases this
  rw [show u+1+(ops.size-n)=(u+(ops.size-n))+1 by omega];refine ⟨fun h0=>absurd h0 hready,fun i hi=> ?_⟩
  have hin:i<n:=by
   rcases hsc with h | ⟨hs,hc⟩
   ·obtain ⟨_,o,ho,_⟩:=mem_ready.1 hi;have:=(Array.getElem?_eq_some_iff.1 ho).1;omega
   ·rcases Nat.lt_or_ge i n with h | h
    ·exact h
    ·obtain ⟨k,hk,hu⟩:=hun
     by_cases hne:n<ops.size
     ·exact absurd hi (tail_waits hs hc hne inv _ k rfl hk (getD_in (hsz hk) hu) i h)
     ·obtain ⟨_,o,ho,_⟩:=mem_ready.1 hi;have:=(Array.getElem?_eq_some_iff.1 ho).1;omega
  obtain ⟨hiu,o,ho,XW⟩:=mem_ready.1 hi
  have hds:(ops.toList.map (·.dst))[i]? =some o.dst:=by simp [ho]
  have hdeps: ∀j∈Zw i o,j<n/\listed.getD j false=true:=fun j hj=>by
   refine ⟨by have:=XG j hj;omega,?_⟩;simp [Zw] at hj;obtain ⟨e,⟨he,hb,_⟩,rfl⟩:=hj;exact XW e he hb
  have hcount:((List.range n).filter fun k=> !(listed.setIfInBounds i true).getD k false).length=u:=by
   have e:((List.range n).filter fun k=> !(listed.setIfInBounds i true).getD k false)=((List.range n).filter fun k=> !listed.getD k false).filter (fun k=>k≠i):=by
    rw [List.filter_filter];refine List.filter_congr fun k hk=> ?_
    by_cases hki:k=i
    ·subst hki;simp [hsz hin]
    ·rw [getD_set_ne false (fun h=>hki h.symm)];simp [hki]
   rw [e]
   have hmem:i∈(List.range n).filter fun k=> !listed.getD k false:=by
    simp only [List.mem_filter,List.mem_range,Bool.not_eq_true'];exact ⟨hin,getD_both hiu⟩
   have hnd:((List.range n).filter fun k=> !listed.getD k false).Nodup:=List.nodup_range.filter _;have:=List.Nodup.erase_eq_filter hnd i
   have e2:(((List.range n).filter fun k=> !listed.getD k false).filter (fun k=>k≠i))=((List.range n).filter fun k=> !listed.getD k false).erase i:=by
    rw [this];refine List.filter_congr fun k _=> ?_
    by_cases h:k=i<;>simp [h,bne]
   rw [e2,List.length_erase_of_mem hmem,hm]
   rfl
  have next: ∀v w',Zym P F H l ms (ZV (ops.toList.map (·.dst)) vals (List.range n) (ZU ((ops.toList.map (·.dst)).take n) fr)) K (ops.toList.map (·.dst)) fr vals n ι0 w0 (listed.setIfInBounds i true) (a.put o.dst v) w'->wpAny P .any ops Q (u+(ops.size-n)) (listed.setIfInBounds i true) (a.put o.dst v) w':=fun v w' h =>
   ih _ _ w' (inv.set hi hin) hcount h
  have hiu2:listed.getD i false=false:=getD_both hiu;obtain ⟨rem,dn,L,hnd,hrm,hst,hdn,hlt,ι,ιL,hιl,mid,gd,slot⟩:=mid
  -- a slot that this operation does not write
  have hoth: ∀ {e:Nat} {v:Value},o.dst≠some e->((a.put o.dst v).tmps).getD e undef=a.tmps.getD e undef:=fun {e v} hne=>by
   cases hdst:o.dst with
   | none=>rfl
   | some d =>
    have hne2:d≠e:=fun h=>hne (by rw [hdst,h]);simp [Act.put,Array.getD_eq_getD_getElem?,Array.getElem?_setIfInBounds_ne hne2]
  have hapart: ∀ {j e:Nat},j<n->j≠i->(ops.toList.map (·.dst))[j]? =some (some e)->o.dst≠some e:=fun {j e} hj hji hd h=>by
   have:=List.all_eq_true.1 (List.all_eq_true.1 hap i (List.mem_range.2 hin)) j (List.mem_range.2 hj);simp [hds,h,hd,Ne.symm hji] at this
  have hdm: ∀m∈ms,(ops.toList.map (·.dst))[m]? =some (Z0 l m).dst:=fun m hm=>by
   have:=(hms m hm).2.1;simp [this]
  unfold wpOp;simp only [ho]
  by_cases him:i∈ms
  ·-- a late one
   obtain ⟨_,hom,hgm,hvm⟩:=hms i him;rw [hom] at ho;simp at ho;subst ho
   have hir:i∈rem:=by
    have h1:=hst i him;rw [hiu2] at h1;simpa using h1.symm
   have hrl:i∈Y8 l rem:=by
    rw [Y8,List.mem_filter];refine ⟨hir,List.all_eq_true.2 fun m' hm'=> ?_⟩
    cases hc:(Zw i (Z0 l i)).contains m' with
    | false=>rfl
    | true =>
     have h3:=(hdeps m' (by simpa using hc)).2;rw [hst m' (hrm m' hm')] at h3;simp at h3;exact absurd hm' h3
   obtain ⟨k,hk⟩: ∃k,rem.length=k+1:=⟨rem.length-1,by have:=List.length_pos_of_mem hir;omega⟩;rw [hk] at hlt;obtain ⟨y,L',hstep,hlt'⟩:=hlt i hrl
   let ls:=(List.range n).filter fun j=>listed.getD j false
   have hls: ∀j∈ls,j<n/\listed.getD j false=true:=fun j hj=>by simpa [ls] using hj
   have hfr:=frAt (dn:=dn) (L:=L) ls hls mid slot
   have hag:YZ (opR (Z0 l i).op) (ZV (ops.toList.map (·.dst)) vals ls (ZU ((ops.toList.map (·.dst)).take n) fr)) (ZV (ops.toList.map (·.dst)) vals (List.range n) (ZU ((ops.toList.map (·.dst)).take n) fr)) :=
    VC hap hdl hvl (fun j hj=>(hls j hj).1) fun t ht j hj hd=>by
     have:=hdeps j (hrd i him t ht j hj hd);simpa [ls] using this
   have hl:=(WG (UP l (by rw [ZY,ZY]) hag dn)).2 hstep
   have hw:Region.wanted (Z0 l i) (yielded ops a.tmps)=true:=by simp [Region.wanted,hgm]
   rw [if_pos hw];refine .inl (YH hl gd.rel hfr fun x H' ι' v w' hk g r=> ?_);obtain ⟨hx,rfl⟩:=hk;subst hx
   obtain ⟨ι1,ιL',rfl,hl1⟩: ∃ι1 ιL',ι'=ι1++ιL'/\ι1.length=H.length:=⟨ι'.take H.length,ι'.drop H.length,(List.take_append_drop _ _).symm,by
    have:=g.rel.len;rw [List.length_append] at this
    simp;omega⟩
   have trans: ∀ {x:V} {v:Value},RV (Own F ιL) H ι w x v->RV (Own F ιL') H ι1 w' x v:=fun {x v} h=>(g.rv h.widen).narrow hl1 h.refB
   have ZV: ∀m∈ms,(listed.setIfInBounds i true).getD m false=decide (m ∉ rem.erase i):=fun m hm=>by
    by_cases e:m=i
    ·subst e;simp [hsz hin,hnd.not_mem_erase]
    ·rw [getD_set_ne false (fun h=>e h.symm),hst m hm];refine decide_eq_decide.2 (not_congr ?_);rw [List.mem_erase_of_ne e]
   have hpi: ∀p∈dn,p.1≠i:=fun p hp e=>(hdn p hp).2 (e ▸ hir);refine next v w' ⟨rem.erase i,(i,x)::dn,L',hnd.erase i,fun m hm=>hrm m (List.mem_of_mem_erase hm),ZV,fun p hp=> ?_,?_,ι1,ιL',hl1,⟨g.rel.front hl1 mid.rel.refH,?_,?_,fun t z ht' hnt=> ?_,fun j e z hj hlj hd hz hlt=> ?_⟩,gd.trans g,fun p hp d hd hlt=> ?_⟩
   ·rcases List.mem_cons.1 hp with rfl | hp
    ·exact ⟨him,hnd.not_mem_erase⟩
    ·exact ⟨(hdn p hp).1,fun h=>(hdn p hp).2 (List.mem_of_mem_erase h)⟩
   ·have:(rem.erase i).length=k:=by rw [List.length_erase_of_mem hir];omega
    rw [this];exact hlt'
   ·cases (Z0 l i).dst<;>simp [Act.put,mid.size]
   ·cases (Z0 l i).dst<;>exact mid.defers
   ·rw [hoth (fun e=>hnt (by
     rw [List.mem_iff_getElem?]
     exact ⟨i,by rw [List.getElem?_take_of_lt hin,hds,e]⟩))]
    exact trans (mid.old t z ht' hnt)
   ·by_cases hij:j=i
    ·subst hij;rw [hvm] at hz;simp at hz;subst hz;exact .junk _
    ·have hl':listed.getD j false=true:=by rwa [getD_set_ne false (fun h=>hij h.symm)] at hlj
     rw [hoth (hapart hj hij hd)];exact trans (mid.new j e z hj hl' hd hz hlt)
   ·rcases List.mem_cons.1 hp with rfl | hp
    ·simp only at hd;rw [hd]
     have:d<a.tmps.size:=by rw [mid.size];exact hlt
     have e2:((a.put (some d) v).tmps).getD d undef=v:=by simp [Act.put,Array.getD,this]
     rw [e2];exact r
    ·have hpm:=(hdn p hp).1;rw [hoth (hapart (hms _ hpm).1 (hpi p hp) (by rw [hdm _ hpm,hd]))];exact g.rv (slot p hp d hd hlt)
  ·-- another
   obtain ⟨z,hz,hok'⟩:=hok i o hin him ho;have hfr:=mid.fr _ hdeps
   have next': ∀ι' v w',Good (Own F ιL) H ι w H ι' w'->RV (Own F ιL) H ι' w' z v->wpAny P .any ops Q (u+(ops.size-n)) (listed.setIfInBounds i true) (a.put o.dst v) w':=fun ι' v w' g r=>by
    have g2:=Good.front hιl gd.rel g rfl;refine next v w' ⟨rem,dn,L,hnd,hrm,fun m hm=> ?_,hdn,hlt,ι',ιL,g.rel.len,mid.put hap g hin hds hz r,gd.trans g2,fun p hp d hd hlt=> ?_⟩
    ·rw [getD_set_ne false (fun (e:i=m)=>him (e ▸ hm))];exact hst m hm
    ·have hpm:=(hdn p hp).1;rw [hoth (hapart (hms _ hpm).1 (fun h=>him (h ▸ hpm)) (by rw [hdm _ hpm,hd]))];exact g2.rv (slot p hp d hd hlt)
   have run:Zr P o (ZV (ops.toList.map (·.dst)) vals (Zw i o) (ZU ((ops.toList.map (·.dst)).take n) fr)) H (fun x H'=>x=z/\H'=H)->o.wp P a w (wpAny P .any ops Q (u+(ops.size-n)) (listed.setIfInBounds i true)) Q:=fun h =>
    Uw h mid.rel hfr fun x H' ι' v w' hk g r=>by
     obtain ⟨rfl,rfl⟩:=hk;exact next' ι' v w' g r
   split at hok'
   ·rename_i hg
    have hw:Region.wanted o (yielded ops a.tmps)=true:=by simp [Region.wanted,hg]
    rw [if_pos hw];exact .inl (run hok')
   ·rename_i j b hg;rcases hok' with ⟨c,hc,h1,h2⟩ | ⟨hc,hyt⟩
    rotate_left
    ·have hyl:=Xj hfr hc
     have hw: ¬(Region.wanted o (yielded ops a.tmps)=true):=by simp [Region.wanted,hg,hyl]
     rw [if_neg hw];exact next' ι undef w (Good.refl mid.rel) (by rw [hyt];exact XB)
    have hyl:=XP hfr hc
    by_cases hcb:c=b
    ·have hw:Region.wanted o (yielded ops a.tmps)=true:=by simp [Region.wanted,hg,hyl,hcb]
     rw [if_pos hw];exact .inl (run (h1 hcb))
    ·have hw: ¬(Region.wanted o (yielded ops a.tmps)=true):=by simp [Region.wanted,hg,hyl,hcb]
     rw [if_neg hw];exact next' ι undef w (Good.refl mid.rel) (by rw [h2 hcb];exact XB)
def JW (l : List Oper) (n : Nat) (ms : List Nat) : Bool :=
  (ms.all fun m => decide (m < n) && decide (m < l.length) && ((Z0 l m).guard.isNone && (opR (Z0 l m).op).all fun t => (List.range n).all fun j => match (l.map (·.dst))[j]? with
        | some (some d) => decide (d ≠ t) || (Zw m (Z0 l m)).contains j
        | _ => true)) && decide ms.Nodup
theorem Xd (ms:List Nat) {P:Program} {id:Nat} {l:List Oper} {fr:List V} {H:List Obj} {Q:Exit->List V->List Obj->Prop} {t} (n:Nat) (hm:P.follows .mixedOrders=true) (hB:YY (List.toArray l) n=true) (hR:Ul (List.toArray (VP ms l)) n=true) (hL:JW l n ms=true) (hfl:fr.length<=1000000)
  (h:hs P (l.map (·.dst)) H (ZB (fun fr'=>VE P H l ms.length ms (idF fr') [] (ZB (fun fr2 L=>Yo P (l.map (·.dst)) (l.drop n) fr2 (H++L) (ZB (Q .normal) ⟨⟩)) ⟨⟩)) ⟨⟩) ((VP ms l).take n) (idF fr)) :
  AWP P (.region id (ZB (List.toArray l) t) true) fr H Q:=fun F ι a w hr hf=>by
 refine wp_region_any hm ?_;have hB':=hB;simp only [YY,Bool.and_eq_true,decide_eq_true_eq] at hB';obtain ⟨⟨⟨⟨hn,_⟩,_⟩,hap⟩,_⟩:=hB'
 have hn2:n<=l.length:=by simpa using hn
 simp only [JW,Bool.and_eq_true,List.all_eq_true,decide_eq_true_eq] at hL;obtain ⟨hL1,hL3⟩:=hL;have hds:(VP ms l).map (·.dst)=l.map (·.dst):=Je ms l;have hh:=Zhy (P:=P) (H:=H) (ops:=List.toArray (VP ms l)) (n:=n) (fr:=fr) (K:=fun fr'=>VE P H l ms.length ms fr' [] (fun fr2 L=>Yo P (l.map (·.dst)) (l.drop n) fr2 (H++L) (Q .normal))) (by simpa [Q5] using hn2) (by simpa [hds] using hap) hR _ 0 [] (Nat.zero_le _) rfl (by simp;rfl) (by simpa [hds,ZV,ZB,idF] using h);obtain ⟨ys,h1,⟨h2a,h2b⟩,h3⟩:=Uj _ 0 [] rfl hh;simp only [List.nil_append,hds] at h2a h2b h3
 have hlen:ys.length=n:=h2a;have g0:=Good.drew hr;have hf0:=g0.fr hf;have hget: ∀k,k<n->((VP ms l).take n)[k]? =(VP ms l)[k]? :=fun k hk=>List.getElem?_take_of_lt hk;have hjl:(ZU ((l.map (·.dst)).take n) fr).length=fr.length:=ZP _ _
 have hlat: ∀m∈ms,m<n/\l[m]? =some (Z0 l m)/\(Z0 l m).guard=none:=fun m hm=>by
  obtain ⟨⟨h4,h5⟩,h6,_⟩:=hL1 m hm;exact ⟨h4,by rw [UO,List.getD_eq_getElem?_getD,List.getElem?_eq_getElem h5];rfl,by simpa using h6⟩
 have hvm: ∀m∈ms,ys[m]? =some .junk:=fun m hm=>by
  obtain ⟨q1,q2,q3⟩:=hlat m hm;obtain ⟨z,hy,hk⟩:=h3 m (Vl (Z0 l m)) (by rw [hget _ q1];exact Ja ms l _ _ hm q2);rw [Nat.zero_add] at hy;have e1:(Vl (Z0 l m)).guard=none:=q3;rw [e1] at hk;simp only [Vl,Zr,Zq,Xk,Xr,aop,ZC] at hk
  have hk2:gt (ZV (l.map (·.dst)) ys (Zw (0+m) { Z0 l m with op:= .move (.tmp 1000000) }) (ZU ((l.map (·.dst)).take n) fr)) 1000000=z:=by simpa [ev] using hk
  rw [ZdS (by rw [ZY,hjl];exact hfl)] at hk2;rw [hy,hk2]
 have hfin:ZV (l.map (·.dst)) ys (List.range n) (ZU ((l.map (·.dst)).take n) fr)=ZV (l.map (·.dst)) ys (List.range n) fr:=Jh hap (by simpa using hn2) hlen
 have:=Zaj (Q:=fun e a' w'=> ∃fr' H' ι',Q e fr' H'/\Good F H ι w H' ι' w'/\Fr F H' ι' w' fr' a') (F:=F) (fr:=fr) (vals:=ys) (P:=P) (H:=H) (l:=l) (ms:=ms) (K:=fun fr2 L=>Yo P (l.map (·.dst)) (l.drop n) fr2 (H++L) (Q .normal)) (ops:=List.toArray l) (ι0:=ι) (w0:= { w with drawn:=w.drawn+1 }) rfl hB hlen
  (fun m hm=>⟨(hlat m hm).1,by simpa using (hlat m hm).2.1,(hlat m hm).2.2,hvm m hm⟩)
  (fun m hm t ht j hj hd=>by
   obtain ⟨_,_,h5⟩:=hL1 m hm;have h6:=h5 t ht j (List.mem_range.2 hj);simp only at hd;rw [hd] at h6
   simpa using h6)
  (fun i o hi him ho=>by
   have:=h3 i o (by
    rw [hget i hi,V8]
    ·simpa using ho
    ·exact him)
   rwa [Nat.zero_add] at this)
  (fun fr2 L ι1 a1 w1 k1 g1 f1=>Z4 (P:=P) (ops:=List.toArray l) _ _ (H++L) _ k1 F ι1 a1 w1 g1.rel f1 fun fr' H' ι' a' w' k g f=>⟨fr',H',ι',k,g0.trans (g1.trans g),f⟩)
  n (Array.replicate l.length false) a { w with drawn:=w.drawn+1 }
  ⟨by simp,fun j oj _ hl=>(by rw [getD_replicate_false] at hl;cases hl),fun t _ ht=>getD_in (by simpa using ht) (getD_replicate_false _ _)⟩
  (by
   rw [List.filter_eq_self.2 (fun i _=>by rw [getD_replicate_false];rfl)]
   simp)
  ⟨ms,[],[],hL3,fun m hm=>hm,fun m hm=>by rw [getD_replicate_false];simp [hm],fun p hp=>(by cases hp),by
    simp only [ptl];rw [hfin]
    exact h2b,ι,[],hr.len,by
   have g1:Rel F (H++ []) (ι++ []) { w with drawn:=w.drawn+1 } :=by simpa using g0.rel
   have r1:=g1.front hr.len hr.refH
   exact ⟨r1,hf0.1,hf0.2.1,fun t x ht _=>RV.narrow (L:= []) hr.len (by simpa using hf0.2.2 t x ht) (hf0.2.2 t x ht).refB,fun j d x _ hl=>by rw [getD_replicate_false] at hl;cases hl⟩,
   by simpa using Good.refl g0.rel,fun p hp=>(by cases hp)⟩
 simp only [List.size_toArray] at this;simp only [ZB,List.size_toArray];rwa [show n+(l.length-n)=l.length by omega] at this
theorem XZ {P H l rem fr L K} (h:K fr L):VE P H l 0 rem fr L K:=h
theorem ZdJ {P H l n rem fr L K} (rs:List Nat) (hr:Y8 l rem=rs) (h: ∀m∈rs,∃y L',Zq P (Z0 l m) fr (H++L) (fun x H'=>x=y/\H'=H++L')/\VE P H l n (rem.erase m) (ptO fr (Z0 l m).dst y) L' K):VE P H l (n+1) rem fr L K:=fun m hm=>h m (hr ▸ hm)
theorem ZG {P H l n rem fr L K} (m:Nat) (y:V) (L':List Obj) (hr:Y8 l rem= [m]) (h:Zq P (Z0 l m) fr (H++L) (fun x H'=>x=y/\H'=H++L')) (k:VE P H l n (rem.erase m) (ptO fr (Z0 l m).dst y) L' K):VE P H l (n+1) rem fr L K :=
 ZdJ [m] hr fun m' hm'=>by
  rw [List.mem_singleton] at hm';subst hm';exact ⟨y,L',h,k⟩
theorem UU {P H l n rem fr L K} (m m2:Nat) (y:V) (L':List Obj) (y2:V) (L2:List Obj) (hr:Y8 l rem= [m,m2]) (h:Zq P (Z0 l m) fr (H++L) (fun x H'=>x=y/\H'=H++L')) (h2:Zq P (Z0 l m2) fr (H++L) (fun x H'=>x=y2/\H'=H++L2))
  (k:VE P H l n (rem.erase m) (ptO fr (Z0 l m).dst y) L' K) (k2:VE P H l n (rem.erase m2) (ptO fr (Z0 l m2).dst y2) L2 K):VE P H l (n+1) rem fr L K :=
 ZdJ [m,m2] hr fun m' hm'=>by
  rcases List.mem_cons.1 hm' with rfl | hm'
  ·exact ⟨y,L',h,k⟩
  ·rw [List.mem_singleton] at hm';subst hm';exact ⟨y2,L2,h2,k2⟩
def WP : Op->Bool
 | .move _=>true
 | .assign _=>true
 | .binOp _ _ _ _ _=>true
 | .unOp _ _ _=>true
 | .pick _ _ _=>true
 | _=>false
theorem Vf {P:Program} {o:Oper} (h:WP o.op=true) {fr:List V} {H H2:List Obj} {y:V} (k:Zr P o fr H (fun x H'=>x=y/\H'=H)):Zr P o fr H2 (fun x H'=>x=y/\H'=H2):=by
 have key: ∀(f:List Obj->Option V),(∀A B,f A=f B)->(match (match f H with | some x=>some (x,H) | none=>(none:Option (V×List Obj))) with | some (x,H')=>x=y/\H'=H | none=>False)->(match (match f H2 with | some x=>some (x,H2) | none=>(none:Option (V×List Obj))) with | some (x,H')=>x=y/\H'=H2 | none=>False):=fun f hf hk=>by
  rw [hf H2 H]
  cases hfh:f H with
  | none=>rw [hfh] at hk;exact hk
  | some x=>rw [hfh] at hk;exact ⟨hk.1,rfl⟩
 unfold Zr Zq at k ⊢
 cases hop:o.op with
 | move x=>rw [hop] at k;simp only [Xr,aop,ZC,Xk] at k ⊢;first | exact ⟨k.1,rfl⟩ | exact ⟨k.1,trivial⟩
 | assign x=>rw [hop] at k;simp only [Xr,aop,ZC,Xk] at k ⊢;first | exact ⟨k.1,rfl⟩ | exact ⟨k.1,trivial⟩
 | binOp a b c d e =>
  rw [hop] at k;simp only [Xr,aop,ZC,Xk,Wd] at k ⊢
  cases hb:X4 P a b (ev fr c) (ev fr d) with
  | none=>rw [hb] at k;simp at k
  | some z=>rw [hb] at k;simp at k ⊢;exact k
 | unOp a b c =>
  rw [hop] at k;simp only [Xr,aop,ZC,Xk,Wd] at k ⊢
  cases hb:aun a (ev fr c) with
  | none=>rw [hb] at k;simp at k
  | some z=>rw [hb] at k;simp at k ⊢;exact k
 | pick c x z =>
  rw [hop] at k;simp only [Xr,aop,ZC,Xk,Wd] at k ⊢
  cases hb:asB (ev fr c) with
  | none=>rw [hb] at k;simp at k
  | some z=>rw [hb] at k;simp at k ⊢;exact k
 | _=>rw [hop] at h;cases h
theorem KO {P:Program} {ds:List (Option Nat)} {fr vals:List V} {H H2:List Obj} {i:Nat} {o:Oper} (h:WP o.op=true) (k:ZfO P ds fr H vals i o):ZfO P ds fr H2 vals i o:=by
 obtain ⟨y,h1,h2⟩:=k;refine ⟨y,h1,?_⟩
 split at h2
 ·exact Vf h h2
 ·rcases h2 with ⟨c,q1,q2,q3⟩ | q
  ·exact .inl ⟨c,q1,fun e=>Vf h (q2 e),q3⟩
  ·exact .inr q
def Qg (l:List Oper):Nat->Nat->Nat->Bool
 | 0,_,_=>false
 | f+1,i,m=>(Zw m (Z0 l m)).any fun j=>decide (j=i)||Qg l f i j
theorem W8 {l:List Oper} {ops:Array Oper} (hol:ops.toList=l) {n:Nat} {listed:Array Bool} (inv:HeadInv .any ops n listed): ∀(f i m:Nat),m<l.length->Qg l f i m=true->(∀j∈Zw m (Z0 l m),listed.getD j false=true)->listed.getD i false=true
 | 0,_,_,_,h,_=>by cases h
 | f+1,i,m,hm,h,hd=>by
  rw [Qg,List.any_eq_true] at h;obtain ⟨j,hj,h⟩:=h;rw [Bool.or_eq_true] at h;rcases h with h | h
  ·rw [<- of_decide_eq_true h];exact hd j hj
  ·have hjm:j<m:=XG j hj
   have hjl:j<l.length:=by omega
   refine W8 hol inv f i j hjl h fun k hk=> ?_
   have ho:ops[j]? =some (Z0 l j):=by
    rw [<- Array.getElem?_toList,hol,UO,List.getD_eq_getElem?_getD,List.getElem?_eq_getElem hjl];rfl
   simp [Zw] at hk;obtain ⟨e,⟨he,hb,_⟩,rfl⟩:=hk;exact inv.closed j _ ho (hd j hj) e he hb
def Zab (ko:List Nat) (x:V):Prop:= ∃o∈ko,(∃off,x= .ptr o off)\/ ∃off n,x= .sl o off n n
theorem Ze3 {ko:List Nat} {o off} (h:o∈ko):Zab ko (.ptr o off):=⟨o,h,.inl ⟨off,rfl⟩⟩
theorem Zhn {ko:List Nat} {o off n} (h:o∈ko):Zab ko (.sl o off n n):=⟨o,h,.inr ⟨off,n,rfl⟩⟩
def Zpw (ds:List (Option Nat)) (frj vals:List V) (ko:List Nat) (i:Nat) (o:Oper):Prop:=o.guard=none/\ ∃p,((∃u,o.op= .load u (.tmp p))\/(∃s f,o.op= .fieldAddr s (.tmp p) f)\/(∃t q,o.op= .indexAddr t (.tmp p) q)\/o.op= .nilCheck (.tmp p))/\Zab ko (gt (ZV ds vals (Zw i o) frj) p)
theorem ZiW {P:Program} {ds:List (Option Nat)} {fr vals:List V} {H L:List Obj} {ko:List Nat} {i:Nat} {o:Oper} (hk:Zpw ds fr vals ko i o) (h: ∀k∈ko,oat L k=oat H k) (k:ZfO P ds fr H vals i o):ZfO P ds fr L vals i o:=by
 obtain ⟨hg,p,hop,o1,ho1,hp⟩:=hk;replace h:=h o1 ho1;obtain ⟨y,h1,h2⟩:=k;refine ⟨y,h1,?_⟩;rw [hg] at h2 ⊢;simp only at h2 ⊢;unfold Zr Zq at h2 ⊢;generalize hX:gt (ZV ds vals (Zw i o) fr) p=X at hp;rcases hop with ⟨u,hop⟩ | ⟨s,f,hop⟩ | ⟨t,q,hop⟩ | hop
 ·have hl:VD P L u X=VD P H u X:=by
   rcases hp with ⟨off,rfl⟩ | ⟨off,n,rfl⟩
   ·simp only [VD,YQ,h]
   ·rfl
  rw [hop] at h2 ⊢;simp only [Xr,aop,ZC,Xk,ev,hX,hl] at h2 ⊢
  cases hl:VD P H u X with
  | none=>rw [hl] at h2;simp [Wd] at h2
  | some z=>rw [hl] at h2;exact ⟨h2.1,rfl⟩
 ·have hal:Ya L X=Ya H X:=by
   rcases hp with ⟨off,rfl⟩ | ⟨off,n,rfl⟩
   ·show (match oat L o1 with | .cells _=>true | _=>false)=(match oat H o1 with | .cells _=>true | _=>false);rw [h]
   ·rfl
  have ha:WW P L s f X=WW P H s f X:=by unfold WW;rw [hal]
  rw [hop] at h2 ⊢;simp only [Xr,aop,ZC,Xk,ev,hX,ha] at h2 ⊢
  cases hl:WW P H s f X with
  | none=>rw [hl] at h2;simp [Wd] at h2
  | some z=>rw [hl] at h2;exact ⟨h2.1,rfl⟩
 ·obtain ⟨I,hI⟩: ∃I,I=ev (ZV ds vals (Zw i o) fr) q:=⟨_,rfl⟩
  have ha:Wv P L t X I=Wv P H t X I:=by
   have hal:Ya L X=Ya H X:=by
    rcases hp with ⟨off,rfl⟩ | ⟨off,n,rfl⟩
    ·show (match oat L o1 with | .cells _=>true | _=>false)=(match oat H o1 with | .cells _=>true | _=>false);rw [h]
    ·rfl
   rcases hp with ⟨off,rfl⟩ | ⟨off,n,rfl⟩
   ·unfold Wv;rw [hal]
   ·unfold Wv;simp only [h,hal]
  rw [hop] at h2 ⊢;have hx:evx (ZV ds vals (Zw i o) fr) (.tmp p)=X:=hX;simp only [Xr,aop,ZC,Xk,hx,<- hI,ha] at h2 ⊢
  cases hz:Wv P H t X I with
  | none=>rw [hz] at h2;simp [Wd] at h2
  | some z=>rw [hz] at h2;exact ⟨h2.1,rfl⟩
 ·have hal:Ya L X=Ya H X:=by
   rcases hp with ⟨off,rfl⟩ | ⟨off,n,rfl⟩
   ·show (match oat L o1 with | .cells _=>true | _=>false)=(match oat H o1 with | .cells _=>true | _=>false);rw [h]
   ·rfl
  rw [hop] at h2 ⊢;simp only [Xr,aop,ZC,Xk,ev,hX,hal] at h2 ⊢
  cases hl:(Ya H X||ZrX X) with
  | false=>rw [hl] at h2;simp [Wd] at h2
  | true=>rw [hl] at h2;simp only [if_true] at h2 ⊢;exact ⟨h2.1,trivial⟩
def OpX (P:Program) (o:Oper) (fr:List V) (H:List Obj) (B:V->List Obj->Prop):Prop :=
 ∀F ι a w,Rel F H ι w->Fr F H ι w fr a-> ∃y H' nx v ι' w',B y H'/\(execOp a.eval o).run P w= .ok nx w'/\(nx= .value v\/(nx= .skip/\v=undef))/\Good F H ι w H' ι' w'/\RV F H' ι' w' y v
def stX (P:Program) (o:Oper) (fr:List V) (H:List Obj) (R:V->List Obj->Prop):Prop:=Zq P o fr H R\/ ∀f2,YZ (opR o.op) fr f2->OpX P o f2 H R
theorem Zeg {P:Program} {o:Oper} {f1 f2:List V} {H:List Obj} {R:V->List Obj->Prop} (h:YZ (opR o.op) f1 f2) (k:stX P o f2 H R):stX P o f1 H R :=
 k.imp (WG h).2 fun k f3 h3=>k f3 fun t ht=>(h t ht).symm.trans (h3 t ht)
theorem Zma {P:Program} {o:Oper} {fr:List V} {H:List Obj} {K:V->List Obj->Prop} (h:stX P o fr H K) {F ι a w} (hr:Rel F H ι w) (hf:Fr F H ι w fr a) {next:Act->World->Prop} {Q:Exit->Act->World->Prop}
  (hn: ∀x H' ι' v w',K x H'->Good F H ι w H' ι' w'->RV F H' ι' w' x v->next (a.put o.dst v) w'):o.wp P a w next Q:=by
 rcases h with h | h
 ·exact YH h hr hf hn
 ·obtain ⟨x,H',nx,v,ι',w',k,e,e2,g,r⟩:=h fr (fun _ _=>rfl) F ι a w hr hf;unfold Oper.wp;rw [e];rcases e2 with rfl | ⟨rfl,rfl⟩
  ·exact hn x H' ι' v w' k g r
  ·exact hn x H' ι' undef w' k g r
def ZdZ (P:Program) (ko:List Nat) (l:List Oper):Nat->List Nat->List V->List Obj->(List V->List Obj->Prop)->Prop
 | 0,_,fr,H,K=>K fr H
 | n+1,rem,fr,H,K=> ∀m∈Y8 l rem,∃R:V->List Obj->Prop,stX P (Z0 l m) fr H R/\ ∀y H',R y H'->(∀k∈ko,oat H' k=oat H k)/\ZdZ P ko l n (rem.erase m) (ptO fr (Z0 l m).dst y) H' K
def Zxl (P:Program) (ko:List Nat) (F:Nat->Prop) (H:List Obj) (l:List Oper) (ms:List Nat) (bs:List V) (K:List V->List Obj->Prop) (ds:List (Option Nat)) (fr vals:List V) (n:Nat) (ι0:List (Option Nat)) (w0:World) (listed:Array Bool) (a:Act) (w:World):Prop :=
 ∃(rem:List Nat) (dn:List (Nat×V)) (L:List Obj),(((∀m∈ms,m∈rem)->L=H)/\(∀k∈ko,oat L k=oat H k))/\rem.Nodup/\(∀m∈rem,m∈ms)/\(∀m∈ms,listed.getD m false=decide (m ∉ rem))/\(∀p∈dn,p.1∈ms/\p.1 ∉ rem)/\ZdZ P ko l rem.length rem (ptl l dn bs) L K /\
  ∃ι,Mid F L ds fr vals n listed ι a w/\Good F H ι0 w0 L ι w /\
   ∀p∈dn,∀d,(Z0 l p.1).dst=some d->d<fr.length->RV F L ι w p.2 (a.tmps.getD d undef)
theorem K7 {P:Program} {ko:List Nat} {ops:Array Oper} {Q:Exit->Act->World->Prop} {F H fr vals} {n:Nat} {l:List Oper} {ms:List Nat} {K:List V->List Obj->Prop} (hol:ops.toList=l) (hB:YY ops n=true) (hvl:vals.length=n)
  (hms: ∀m∈ms,m<n/\ops[m]? =some (Z0 l m)/\(Z0 l m).guard=none/\vals[m]? =some .junk)
  (hrd: ∀m∈ms,∀t∈opR (Z0 l m).op,∀j,j<n->(ops.toList.map (·.dst))[j]? =some (some t)->j∈Zw m (Z0 l m))
  (hev: ∀i,i<n->i ∉ ms->(WP (Z0 l i).op=true\/ ∀m∈ms,Qg l n i m=true)\/Zpw (ops.toList.map (·.dst)) (ZU ((ops.toList.map (·.dst)).take n) fr) vals ko i (Z0 l i))
  (hok: ∀(i:Nat) (o:Oper),i<n->i ∉ ms->ops[i]? =some o->ZfO P (ops.toList.map (·.dst)) (ZU ((ops.toList.map (·.dst)).take n) fr) H vals i o) {ι0 w0}
  (ht: ∀fr' L ι a w,K fr' L->Good F H ι0 w0 L ι w->Fr F L ι w fr' a->wpList P ops Q (ops.toList.drop n) a w) :
  ∀(u:Nat) (listed:Array Bool) (a:Act) (w:World),HeadInv .any ops n listed->((List.range n).filter fun i=> !listed.getD i false).length=u ->
   Zxl P ko F H l ms (ZV (ops.toList.map (·.dst)) vals (List.range n) (ZU ((ops.toList.map (·.dst)).take n) fr)) K (ops.toList.map (·.dst)) fr vals n ι0 w0 listed a w->wpAny P .any ops Q (u+(ops.size-n)) listed a w:=by
 simp only [YY,Bool.and_eq_true,decide_eq_true_eq,Bool.or_eq_true] at hB;obtain ⟨⟨⟨⟨hn,hsc⟩,hea⟩,hap⟩,hseq⟩:=hB
 have hdl:n<=(ops.toList.map (·.dst)).length:=by simpa using hn
 -- the frame at late operations done, azs far azs is listed
 have frAt: ∀ {dn:List (Nat×V)} {L:List Obj} {listed:Array Bool} {ι:List (Option Nat)} {a:Act} {w:World} (ls:List Nat),(∀j∈ls,j<n/\listed.getD j false=true)->Mid F L (ops.toList.map (·.dst)) fr vals n listed ι a w ->
   (∀p∈dn,∀d,(Z0 l p.1).dst=some d->d<fr.length->RV F L ι w p.2 (a.tmps.getD d undef)) ->
   Fr F L ι w (ptl l dn (ZV (ops.toList.map (·.dst)) vals ls (ZU ((ops.toList.map (·.dst)).take n) fr))) a:=fun {dn L listed ι a w} ls hls mid slot=>by
  obtain ⟨f1,f2,f3⟩:=mid.fr ls hls;refine ⟨by rw [Vr];exact f1,f2,fun t x hx=> ?_⟩;rcases Zap l dn _ hx with ⟨p,h1,h2,rfl,h4⟩ | h1
  ·exact slot p h1 t h2 (by rw [ZY,ZP] at h4;exact h4)
  ·exact f3 t x h1
 intro u
 induction u with
 | zero =>
  intro listed a w inv hm mid
  have XW: ∀i,i<n->listed.getD i false=true:=fun i hi=>by
   have h0:=List.eq_nil_of_length_eq_zero hm
   have:i ∉ (List.range n).filter fun i=> !listed.getD i false:=by rw [h0];simp
   simp only [List.mem_filter,List.mem_range,not_and,Bool.not_eq_true',Bool.not_eq_false] at this;exact this hi
  have hl:listed=Array.replicate n true++Array.replicate (ops.size-n) false:=by
   refine Array.ext (by simp [inv.size];omega) fun i h1 h2=> ?_
   by_cases hi:i<n
   ·have:=XW i hi;rw [Array.getElem_append_left (by simpa using hi)];simp [h1] at this;simp [this]
   ·have:=inv.tail i (by omega) (by rw [<- inv.size];exact h1);rw [Array.getElem_append_right (by simp;omega)];simp [h1] at this;simp [this]
  obtain ⟨rem,dn,L,⟨hLH,hko⟩,hnd,hrm,hst,hdn,hlt,ι,mid,gd,slot⟩:=mid
  have hs:rem= []:=by
   cases rem with
   | nil=>rfl
   | cons m r =>
    have h1:=hst m (hrm m (by simp));rw [XW _ (hms m (hrm m (by simp))).1] at h1;simp at h1
  subst hs;have hw:=ht _ L ι a w hlt gd (frAt (List.range n) (fun j hj=>⟨List.mem_range.1 hj,XW j (List.mem_range.1 hj)⟩) mid slot);have:=wpAny_of_seq (md:= .any) (Q':=Q) (ops.toList.drop n) n listed a w (fun j=>by simp [List.getElem?_drop]) (by rw [hl];simpa using hseq) hw;simpa using this
 | succ u ih =>
  intro listed a w inv hm mid
  have hun: ∃i,i<n/\listed.getD i false=false:=by
   cases hf:(List.range n).filter fun i=> !listed.getD i false with
   | nil=>rw [hf] at hm;simp at hm
   | cons i l =>
    have:i∈(List.range n).filter fun i=> !listed.getD i false:=by rw [hf];simp
    simp only [List.mem_filter,List.mem_range,Bool.not_eq_true'] at this;exact ⟨i,this⟩
  have hsz: ∀ {i},i<n->i<listed.size:=fun h=>by rw [inv.size];omega
  have hready:Region.ready .any ops listed≠ []:=by
   obtain ⟨i,hi,hu⟩:=hun
   have: ∃i,i<n/\listed.getD i false=false/\ ∀j,j<i->listed.getD j false=true:=by
    induction i using Nat.strongRecOn with
    | _ i ihh =>
     by_cases hex: ∃j,j<i/\listed.getD j false=false
     ·obtain ⟨j,hj,hju⟩:=hex;exact ihh j hj (by omega) hju
     ·exact ⟨i,hi,hu,fun j hj=>by
       cases hb:listed.getD j false with
       | true=>rfl
       | false=>exact absurd ⟨j,hj,hb⟩ hex⟩
   obtain ⟨i,hi,hu,hmin⟩:=this;intro h0
   have:i∈Region.ready .any ops listed:=by
    have hlt:i<ops.size:=by omega
    refine mem_ready.2 ⟨getD_in (hsz hi) hu,ops[i],by simp [hlt],fun e he hb=> ?_⟩;have h1:=List.all_eq_true.1 hea i (List.mem_range.2 hi);simp only [hlt,Array.getElem?_eq_getElem,Array.all_eq_true_iff_forall_mem] at h1;have:=h1 e he;simp [hb] at this;exact hmin _ this
   rw [h0] at this
   cases this
  rw [show u+1+(ops.size-n)=(u+(ops.size-n))+1 by omega];refine ⟨fun h0=>absurd h0 hready,fun i hi=> ?_⟩
  have hin:i<n:=by
   rcases hsc with h | ⟨hs,hc⟩
   ·obtain ⟨_,o,ho,_⟩:=mem_ready.1 hi;have:=(Array.getElem?_eq_some_iff.1 ho).1;omega
   ·rcases Nat.lt_or_ge i n with h | h
    ·exact h
    ·obtain ⟨k,hk,hu⟩:=hun
     by_cases hne:n<ops.size
     ·exact absurd hi (tail_waits hs hc hne inv _ k rfl hk (getD_in (hsz hk) hu) i h)
     ·obtain ⟨_,o,ho,_⟩:=mem_ready.1 hi;have:=(Array.getElem?_eq_some_iff.1 ho).1;omega
  obtain ⟨hiu,o,ho,XW⟩:=mem_ready.1 hi
  have hds:(ops.toList.map (·.dst))[i]? =some o.dst:=by simp [ho]
  have hdeps: ∀j∈Zw i o,j<n/\listed.getD j false=true:=fun j hj=>by
   refine ⟨by have:=XG j hj;omega,?_⟩;simp [Zw] at hj;obtain ⟨e,⟨he,hb,_⟩,rfl⟩:=hj;exact XW e he hb
  have hcount:((List.range n).filter fun k=> !(listed.setIfInBounds i true).getD k false).length=u:=by
   have e:((List.range n).filter fun k=> !(listed.setIfInBounds i true).getD k false)=((List.range n).filter fun k=> !listed.getD k false).filter (fun k=>k≠i):=by
    rw [List.filter_filter];refine List.filter_congr fun k hk=> ?_
    by_cases hki:k=i
    ·subst hki;simp [hsz hin]
    ·rw [getD_set_ne false (fun h=>hki h.symm)];simp [hki]
   rw [e]
   have hmem:i∈(List.range n).filter fun k=> !listed.getD k false:=by
    simp only [List.mem_filter,List.mem_range,Bool.not_eq_true'];exact ⟨hin,getD_both hiu⟩
   have hnd:((List.range n).filter fun k=> !listed.getD k false).Nodup:=List.nodup_range.filter _;have:=List.Nodup.erase_eq_filter hnd i
   have e2:(((List.range n).filter fun k=> !listed.getD k false).filter (fun k=>k≠i))=((List.range n).filter fun k=> !listed.getD k false).erase i:=by
    rw [this];refine List.filter_congr fun k _=> ?_
    by_cases h:k=i<;>simp [h,bne]
   rw [e2,List.length_erase_of_mem hmem,hm]
   rfl
  have next: ∀v w',Zxl P ko F H l ms (ZV (ops.toList.map (·.dst)) vals (List.range n) (ZU ((ops.toList.map (·.dst)).take n) fr)) K (ops.toList.map (·.dst)) fr vals n ι0 w0 (listed.setIfInBounds i true) (a.put o.dst v) w'->wpAny P .any ops Q (u+(ops.size-n)) (listed.setIfInBounds i true) (a.put o.dst v) w':=fun v w' h =>
   ih _ _ w' (inv.set hi hin) hcount h
  have hiu2:listed.getD i false=false:=getD_both hiu;obtain ⟨rem,dn,L,⟨hLH,hko⟩,hnd,hrm,hst,hdn,hlt,ι,mid,gd,slot⟩:=mid
  -- a slot that this operation does not write
  have hoth: ∀ {e:Nat} {v:Value},o.dst≠some e->((a.put o.dst v).tmps).getD e undef=a.tmps.getD e undef:=fun {e v} hne=>by
   cases hdst:o.dst with
   | none=>rfl
   | some d =>
    have hne2:d≠e:=fun h=>hne (by rw [hdst,h]);simp [Act.put,Array.getD_eq_getD_getElem?,Array.getElem?_setIfInBounds_ne hne2]
  have hapart: ∀ {j e:Nat},j<n->j≠i->(ops.toList.map (·.dst))[j]? =some (some e)->o.dst≠some e:=fun {j e} hj hji hd h=>by
   have:=List.all_eq_true.1 (List.all_eq_true.1 hap i (List.mem_range.2 hin)) j (List.mem_range.2 hj);simp [hds,h,hd,Ne.symm hji] at this
  have hdm: ∀m∈ms,(ops.toList.map (·.dst))[m]? =some (Z0 l m).dst:=fun m hm=>by
   have:=(hms m hm).2.1;simp [this]
  unfold wpOp;simp only [ho]
  by_cases him:i∈ms
  ·-- a late one
   obtain ⟨_,hom,hgm,hvm⟩:=hms i him;rw [hom] at ho;simp at ho;subst ho
   have hir:i∈rem:=by
    have h1:=hst i him;rw [hiu2] at h1;simpa using h1.symm
   have hrl:i∈Y8 l rem:=by
    rw [Y8,List.mem_filter];refine ⟨hir,List.all_eq_true.2 fun m' hm'=> ?_⟩
    cases hc:(Zw i (Z0 l i)).contains m' with
    | false=>rfl
    | true =>
     have h3:=(hdeps m' (by simpa using hc)).2;rw [hst m' (hrm m' hm')] at h3;simp at h3;exact absurd hm' h3
   obtain ⟨k,hk⟩: ∃k,rem.length=k+1:=⟨rem.length-1,by have:=List.length_pos_of_mem hir;omega⟩;rw [hk] at hlt;obtain ⟨R,hstep,hltR⟩:=hlt i hrl
   let ls:=(List.range n).filter fun j=>listed.getD j false
   have hls: ∀j∈ls,j<n/\listed.getD j false=true:=fun j hj=>by simpa [ls] using hj
   have hfr:=frAt (dn:=dn) (L:=L) ls hls mid slot
   have hag:YZ (opR (Z0 l i).op) (ZV (ops.toList.map (·.dst)) vals ls (ZU ((ops.toList.map (·.dst)).take n) fr)) (ZV (ops.toList.map (·.dst)) vals (List.range n) (ZU ((ops.toList.map (·.dst)).take n) fr)) :=
    VC hap hdl hvl (fun j hj=>(hls j hj).1) fun t ht j hj hd=>by
     have:=hdeps j (hrd i him t ht j hj hd);simpa [ls] using this
   have hl:=Zeg (UP l (by rw [ZY,ZY]) hag dn) hstep
   have hw:Region.wanted (Z0 l i) (yielded ops a.tmps)=true:=by simp [Region.wanted,hgm]
   rw [if_pos hw];refine .inl (Zma hl gd.rel hfr fun x H' ι' v w' hk g r=> ?_);obtain ⟨hko',hlt'⟩:=hltR x H' hk;have trans: ∀ {x:V} {v:Value},RV F L ι w x v->RV F H' ι' w' x v:=fun {x v} h=>g.rv h
   have ZV: ∀m∈ms,(listed.setIfInBounds i true).getD m false=decide (m ∉ rem.erase i):=fun m hm=>by
    by_cases e:m=i
    ·subst e;simp [hsz hin,hnd.not_mem_erase]
    ·rw [getD_set_ne false (fun h=>e h.symm),hst m hm];refine decide_eq_decide.2 (not_congr ?_);rw [List.mem_erase_of_ne e]
   have hpi: ∀p∈dn,p.1≠i:=fun p hp e=>(hdn p hp).2 (e ▸ hir);refine next v w' ⟨rem.erase i,(i,x)::dn,H',⟨fun XW=>absurd (XW i him) hnd.not_mem_erase,fun k hk=>(hko' k hk).trans (hko k hk)⟩,hnd.erase i,fun m hm=>hrm m (List.mem_of_mem_erase hm),ZV,fun p hp=> ?_,?_,ι',⟨g.rel,?_,?_,fun t z ht' hnt=> ?_,fun j e z hj hlj hd hz hlt=> ?_⟩,gd.trans g,fun p hp d hd hlt=> ?_⟩
   ·rcases List.mem_cons.1 hp with rfl | hp
    ·exact ⟨him,hnd.not_mem_erase⟩
    ·exact ⟨(hdn p hp).1,fun h=>(hdn p hp).2 (List.mem_of_mem_erase h)⟩
   ·have:(rem.erase i).length=k:=by rw [List.length_erase_of_mem hir];omega
    rw [this];exact hlt'
   ·cases (Z0 l i).dst<;>simp [Act.put,mid.size]
   ·cases (Z0 l i).dst<;>exact mid.defers
   ·rw [hoth (fun e=>hnt (by
     rw [List.mem_iff_getElem?]
     exact ⟨i,by rw [List.getElem?_take_of_lt hin,hds,e]⟩))]
    exact trans (mid.old t z ht' hnt)
   ·by_cases hij:j=i
    ·subst hij;rw [hvm] at hz;simp at hz;subst hz;exact .junk _
    ·have hl':listed.getD j false=true:=by rwa [getD_set_ne false (fun h=>hij h.symm)] at hlj
     rw [hoth (hapart hj hij hd)];exact trans (mid.new j e z hj hl' hd hz hlt)
   ·rcases List.mem_cons.1 hp with rfl | hp
    ·simp only at hd;rw [hd]
     have:d<a.tmps.size:=by rw [mid.size];exact hlt
     have e2:((a.put (some d) v).tmps).getD d undef=v:=by simp [Act.put,Array.getD,this]
     rw [e2];exact r
    ·have hpm:=(hdn p hp).1;rw [hoth (hapart (hms _ hpm).1 (hpi p hp) (by rw [hdm _ hpm,hd]))];exact g.rv (slot p hp d hd hlt)
  ·-- another
   have hil:i<l.length:=by have:=(Array.getElem?_eq_some_iff.1 ho).1;rw [<- hol];simpa using this
   have hlo:Z0 l i=o:=by
    have e:ops[i]? =some (Z0 l i):=by
     rw [<- Array.getElem?_toList,hol,UO,List.getD_eq_getElem?_getD,List.getElem?_eq_getElem hil];rfl
    rw [ho] at e;simpa using e.symm
   have hokL:ZfO P (ops.toList.map (·.dst)) (ZU ((ops.toList.map (·.dst)).take n) fr) L vals i o:=by
    by_cases XW: ∀m∈ms,m∈rem
    ·rw [hLH XW];exact hok i o hin him ho
    ·rcases (hev i hin him).symm with h | h
     ·exact ZiW (by rw [<- hlo];exact h) hko (hok i o hin him ho)
     rcases h with h | h
     ·exact KO (by rw [<- hlo];exact h) (hok i o hin him ho)
     ·exfalso;refine XW fun m hm=>Classical.byContradiction fun hnr=> ?_;have h1:=hst m hm;rw [decide_eq_true hnr] at h1
      have hml:m<l.length:=by have:=(Array.getElem?_eq_some_iff.1 (hms m hm).2.1).1;rw [<- hol];simpa using this
      have:=W8 hol inv n i m hml (h m hm) fun j hj=>by
       simp [Zw] at hj;obtain ⟨e,⟨he,hb,_⟩,rfl⟩:=hj;exact inv.closed m _ (hms m hm).2.1 h1 e he hb
      rw [hiu2] at this;cases this
   obtain ⟨z,hz,hok'⟩:=hokL;have hfr:=mid.fr _ hdeps
   have next': ∀ι' v w',Good F L ι w L ι' w'->RV F L ι' w' z v->wpAny P .any ops Q (u+(ops.size-n)) (listed.setIfInBounds i true) (a.put o.dst v) w':=fun ι' v w' g r=>by
    refine next v w' ⟨rem,dn,L,⟨hLH,hko⟩,hnd,hrm,fun m hm=> ?_,hdn,hlt,ι',mid.put hap g hin hds hz r,gd.trans g,fun p hp d hd hlt=> ?_⟩
    ·rw [getD_set_ne false (fun (e:i=m)=>him (e ▸ hm))];exact hst m hm
    ·have hpm:=(hdn p hp).1;rw [hoth (hapart (hms _ hpm).1 (fun h=>him (h ▸ hpm)) (by rw [hdm _ hpm,hd]))];exact g.rv (slot p hp d hd hlt)
   have run:Zr P o (ZV (ops.toList.map (·.dst)) vals (Zw i o) (ZU ((ops.toList.map (·.dst)).take n) fr)) L (fun x H'=>x=z/\H'=L)->o.wp P a w (wpAny P .any ops Q (u+(ops.size-n)) (listed.setIfInBounds i true)) Q:=fun h =>
    Uw h mid.rel hfr fun x H' ι' v w' hk g r=>by
     obtain ⟨rfl,rfl⟩:=hk;exact next' ι' v w' g r
   split at hok'
   ·rename_i hg
    have hw:Region.wanted o (yielded ops a.tmps)=true:=by simp [Region.wanted,hg]
    rw [if_pos hw];exact .inl (run hok')
   ·rename_i j b hg;rcases hok' with ⟨c,hc,h1,h2⟩ | ⟨hc,hyt⟩
    rotate_left
    ·have hyl:=Xj hfr hc
     have hw: ¬(Region.wanted o (yielded ops a.tmps)=true):=by simp [Region.wanted,hg,hyl]
     rw [if_neg hw];exact next' ι undef w (Good.refl mid.rel) (by rw [hyt];exact XB)
    have hyl:=XP hfr hc
    by_cases hcb:c=b
    ·have hw:Region.wanted o (yielded ops a.tmps)=true:=by simp [Region.wanted,hg,hyl,hcb]
     rw [if_pos hw];exact .inl (run (h1 hcb))
    ·have hw: ¬(Region.wanted o (yielded ops a.tmps)=true):=by simp [Region.wanted,hg,hyl,hcb]
     rw [if_neg hw];exact next' ι undef w (Good.refl mid.rel) (by rw [h2 hcb];exact XB)
def ldP (o:Oper):Option Nat:=match o.op with | .load _ (.tmp p)=>if o.guard.isNone=true then some p else none | .fieldAddr _ (.tmp p) _=>if o.guard.isNone=true then some p else none | .indexAddr _ (.tmp p) _=>if o.guard.isNone=true then some p else none | .nilCheck (.tmp p)=>if o.guard.isNone=true then some p else none | _=>none
def evC (l:List Oper) (n:Nat) (ms ks:List Nat):Bool:=(List.range n).all fun i=>ms.contains i||WP (Z0 l i).op||(ms.all fun m=>Qg l n i m)||(ks.contains i&&match ldP (Z0 l i) with
 | some p=>(List.range n).all fun j=>match (l.map (·.dst))[j]? with | some (some d)=>decide (d≠p)||(Zw i (Z0 l i)).contains j | _=>true
 | none=>false)
theorem ZcH (ms ks ko:List Nat) {P:Program} {id:Nat} {l:List Oper} {fr:List V} {H:List Obj} {Q:Exit->List V->List Obj->Prop} {t} (n:Nat) (hm:P.follows .mixedOrders=true) (hB:YY (List.toArray l) n=true) (hR:Ul (List.toArray (VP ms l)) n=true) (hL:JW l n ms=true) (hE:evC l n ms ks=true) (hfl:fr.length<=1000000)
  (h:hs P (l.map (·.dst)) H (ZB (fun fr'=>(∀k∈ks,∀p,ldP (Z0 l k)=some p->Zab ko (gt (idF fr') p))/\ZdZ P ko l ms.length ms (idF fr') H (ZB (fun fr2 L=>Yo P (l.map (·.dst)) (l.drop n) fr2 L (ZB (Q .normal) ⟨⟩)) ⟨⟩)) ⟨⟩) ((VP ms l).take n) (idF fr)) :
  AWP P (.region id (ZB (List.toArray l) t) true) fr H Q:=fun F ι a w hr hf=>by
 refine wp_region_any hm ?_;have hB':=hB;simp only [YY,Bool.and_eq_true,decide_eq_true_eq] at hB';obtain ⟨⟨⟨⟨hn,_⟩,_⟩,hap⟩,_⟩:=hB'
 have hn2:n<=l.length:=by simpa using hn
 simp only [JW,Bool.and_eq_true,List.all_eq_true,decide_eq_true_eq] at hL;obtain ⟨hL1,hL3⟩:=hL;have hds:(VP ms l).map (·.dst)=l.map (·.dst):=Je ms l;have hh:=Zhy (P:=P) (H:=H) (ops:=List.toArray (VP ms l)) (n:=n) (fr:=fr) (K:=fun fr'=>(∀k∈ks,∀p,ldP (Z0 l k)=some p->Zab ko (gt fr' p))/\ZdZ P ko l ms.length ms fr' H (fun fr2 L=>Yo P (l.map (·.dst)) (l.drop n) fr2 L (Q .normal))) (by simpa [Q5] using hn2) (by simpa [hds] using hap) hR _ 0 [] (Nat.zero_le _) rfl (by simp;rfl) (by simpa [hds,ZV,ZB,idF] using h);obtain ⟨ys,h1,⟨h2a,h2b⟩,h3⟩:=Uj _ 0 [] rfl hh
 simp only [List.nil_append,hds] at h2a h2b h3;have hlen:ys.length=n:=h2a;have g0:=Good.drew hr;have hf0:=g0.fr hf;have hget: ∀k,k<n->((VP ms l).take n)[k]? =(VP ms l)[k]? :=fun k hk=>List.getElem?_take_of_lt hk;have hjl:(ZU ((l.map (·.dst)).take n) fr).length=fr.length:=ZP _ _
 have hlat: ∀m∈ms,m<n/\l[m]? =some (Z0 l m)/\(Z0 l m).guard=none:=fun m hm=>by
  obtain ⟨⟨h4,h5⟩,h6,_⟩:=hL1 m hm;exact ⟨h4,by rw [UO,List.getD_eq_getElem?_getD,List.getElem?_eq_getElem h5];rfl,by simpa using h6⟩
 have hvm: ∀m∈ms,ys[m]? =some .junk:=fun m hm=>by
  obtain ⟨q1,q2,q3⟩:=hlat m hm;obtain ⟨z,hy,hk⟩:=h3 m (Vl (Z0 l m)) (by rw [hget _ q1];exact Ja ms l _ _ hm q2);rw [Nat.zero_add] at hy;have e1:(Vl (Z0 l m)).guard=none:=q3;rw [e1] at hk;simp only [Vl,Zr,Zq,Xk,Xr,aop,ZC] at hk
  have hk2:gt (ZV (l.map (·.dst)) ys (Zw (0+m) { Z0 l m with op:= .move (.tmp 1000000) }) (ZU ((l.map (·.dst)).take n) fr)) 1000000=z:=by simpa [ev] using hk
  rw [ZdS (by rw [ZY,hjl];exact hfl)] at hk2;rw [hy,hk2]
 have hfin:ZV (l.map (·.dst)) ys (List.range n) (ZU ((l.map (·.dst)).take n) fr)=ZV (l.map (·.dst)) ys (List.range n) fr:=Jh hap (by simpa using hn2) hlen
 have:=K7 (ko:=ko) (Q:=fun e a' w'=> ∃fr' H' ι',Q e fr' H'/\Good F H ι w H' ι' w'/\Fr F H' ι' w' fr' a') (F:=F) (fr:=fr) (vals:=ys) (P:=P) (H:=H) (l:=l) (ms:=ms) (K:=fun fr2 L=>Yo P (l.map (·.dst)) (l.drop n) fr2 L (Q .normal)) (ops:=List.toArray l) (ι0:=ι) (w0:= { w with drawn:=w.drawn+1 }) rfl hB hlen
  (fun m hm=>⟨(hlat m hm).1,by simpa using (hlat m hm).2.1,(hlat m hm).2.2,hvm m hm⟩)
  (fun m hm t ht j hj hd=>by
   obtain ⟨_,_,h5⟩:=hL1 m hm;have h6:=h5 t ht j (List.mem_range.2 hj);simp only at hd;rw [hd] at h6
   simpa using h6)
  (fun i hi him=>by
   have:=List.all_eq_true.1 hE i (List.mem_range.2 hi);rw [Bool.or_eq_true,Bool.or_eq_true,Bool.or_eq_true] at this;rcases this with h | h
   ·rcases h with h | h
    ·rcases h with h | h
     ·exact absurd (by simpa using h) him
     ·exact .inl (.inl h)
    ·exact .inl (.inr fun m hm=>List.all_eq_true.1 h m hm)
   ·right
    rw [Bool.and_eq_true] at h;obtain ⟨hk,h⟩:=h
    split at h
    rotate_left
    ·cases h
    rename_i p hp;have ho:=h2b.1 i (by simpa using hk) p hp
    have hgo:(Z0 l i).guard=none/\((∃u,(Z0 l i).op= .load u (.tmp p))\/(∃s f,(Z0 l i).op= .fieldAddr s (.tmp p) f)\/(∃t q,(Z0 l i).op= .indexAddr t (.tmp p) q)\/(Z0 l i).op= .nilCheck (.tmp p)):=by
     unfold ldP at hp
     split at hp
     ·rename_i u q hop
      split at hp
      ·rename_i hg;simp at hp;subst hp;exact ⟨by simpa using hg,.inl ⟨u,hop⟩⟩
      ·cases hp
     ·rename_i u q f hop
      split at hp
      ·rename_i hg;simp at hp;subst hp;exact ⟨by simpa using hg,.inr (.inl ⟨u,f,hop⟩)⟩
      ·cases hp
     ·rename_i u q f hop
      split at hp
      ·rename_i hg;simp at hp;subst hp;exact ⟨by simpa using hg,.inr (.inr (.inl ⟨u,f,hop⟩))⟩
      ·cases hp
     ·rename_i q hop
      split at hp
      ·rename_i hg;simp at hp;subst hp;exact ⟨by simpa using hg,.inr (.inr (.inr hop))⟩
      ·cases hp
     ·cases hp
    refine ⟨hgo.1,p,hgo.2,?_⟩
    have hag:=VC (fr:=fr) (vals:=ys) (ls:=Zw i (Z0 l i)) (R:= [p]) hap (by simpa using hn2) hlen (fun j hj=>by have:=XG j hj;omega) fun t ht j hj hd=>by
     have h5:=List.all_eq_true.1 h j (List.mem_range.2 hj);simp at ht;subst ht;rw [hd] at h5;simpa using h5
    rw [hag p (by simp),hfin]
    exact ho)
  (fun i o hi him ho=>by
   have:=h3 i o (by
    rw [hget i hi,V8]
    ·simpa using ho
    ·exact him)
   rwa [Nat.zero_add] at this)
  (fun fr2 L ι1 a1 w1 k1 g1 f1=>Z4 (P:=P) (ops:=List.toArray l) _ _ L _ k1 F ι1 a1 w1 g1.rel f1 fun fr' H' ι' a' w' k g f=>⟨fr',H',ι',k,g0.trans (g1.trans g),f⟩)
  n (Array.replicate l.length false) a { w with drawn:=w.drawn+1 }
  ⟨by simp,fun j oj _ hl=>(by rw [getD_replicate_false] at hl;cases hl),fun t _ ht=>getD_in (by simpa using ht) (getD_replicate_false _ _)⟩
  (by
   rw [List.filter_eq_self.2 (fun i _=>by rw [getD_replicate_false];rfl)]
   simp)
  ⟨ms,[],H,⟨fun _=>rfl,fun _ _=>rfl⟩,hL3,fun m hm=>hm,fun m hm=>by rw [getD_replicate_false];simp [hm],fun p hp=>(by cases hp),by
    simp only [ptl];rw [hfin]
    exact h2b.2,ι,⟨g0.rel,hf0.1,hf0.2.1,fun t x ht _=>hf0.2.2 t x ht,fun j d x _ hl=>by rw [getD_replicate_false] at hl;cases hl⟩,Good.refl g0.rel,fun p hp=>(by cases hp)⟩
 simp only [List.size_toArray] at this;simp only [ZB,List.size_toArray];rwa [show n+(l.length-n)=l.length by omega] at this
theorem Zeb {P:Program} {o:Oper} {fr:List V} {H:List Obj} {t t2 e:TypeId} {x y:Operand} {ob of n m tot k:Nat} {xs:List PV} (h:o.op= .call { callee:= .builtin .copy,args:= #[x,y],argTypes:= #[t,t2] })
  (hu:P.underlying t=some (.slice e)) (hs:(P.info? e).map (·.size)=some 1) (hx:ev fr x= .sl ob of n tot) (hy:ev fr y= .sl ob 0 m tot) (hH:H[ob]? =some (.elems 1 xs)) (hn:xs.length=tot) (hk:k=Nat.min m n) (h0:0<k) (hone: ∀q∈xs,q.one=true) :
  OpS P o fr H (.p (.int .i64 (k:Nat))) (H.set ob (.elems 1 (xs.take of++xs.take k++xs.drop (of+k)))):=fun F ι a w hr hf=>by
 have h1:=hf.ev x;have h2:=hf.ev y;rw [hx] at h1;rw [hy] at h2;have hgo: ∀k:Nat,goInt k= .int .i64 (k:Int):=fun k=>rfl
 have hkm:k<=m/\k<=n:=by rw [hk];exact ⟨Nat.min_le_left _ _,Nat.min_le_right _ _⟩
 generalize hxe:a.eval x=vx at h1;generalize hye:a.eval y=vy at h2
 cases h1 with
 | slNil=>omega
 | sl _ _ _ _ b S cap ty xs2 cc hb hH2 ht hw hcap hl hlen hm =>
  rw [hH] at hH2;simp at hH2;obtain ⟨rfl,rfl⟩:=hH2
  cases h2 with
  | slNil=>omega
  | sl _ _ _ _ b' S' cap' ty' xs' cc' hb' hH2' ht' hw' hcap' hl' hlen' hm' =>
   rw [hb] at hb';simp at hb';subst hb';rw [hH] at hH2';simp at hH2';obtain ⟨rfl,rfl⟩:=hH2';rcases hr.elm ob 1 xs hH with ⟨e1,e2⟩ | ⟨b2,c2,t3,cap2,f1,f2,f3,f4,f5,f6,f7⟩
   ·rw [e1] at hb;cases hb
   ·have:b2=b:=by rw [hb] at f1;simpa using f1.symm
    subst this;rw [hw] at f2;simp at f2;obtain ⟨rfl,rfl⟩:=f2;obtain ⟨us,hus⟩: ∃us,us=(List.range k).map fun i=>cc.getD i undef:=⟨_,rfl⟩
    have hul:us.length=k:=by simp [hus]
    have hut: ∀j,j<k->us[j]? =some (cc.getD j undef):=fun j hj=>by simp [hus,List.getElem?_range hj]
    have hsize:tot<=cc.size:=by omega
    have hq: ∀j,j<k-> ∃q,xs[j]? =some q/\q.cells= [q]/\RP (Own F ι) w q (cc.getD j undef)/\q.one=true:=fun j hj=>by
     have hjx:j<xs.length:=by omega
     have e:=List.getElem?_eq_getElem hjx;have h1:=hone _ (List.getElem_mem hjx);have hc:=PV.cells_one h1;have:=f7 j _ 0 _ e (by rw [hc];rfl);simp only [Nat.mul_one,Nat.add_zero] at this;exact ⟨_,e,hc,this,h1⟩
    have hmin:us.length=Nat.min m n:=by rw [hul];exact hk
    have hrun:=run_copy_row P w t t2 o.type e b2 of n cap ⟨b2,0,none⟩ m cap' cc ty us hu hs hw hmin (fun j v hj=>by
     have hjk:j<k:=by have:=(List.getElem?_eq_some_iff.1 hj).1;omega
     rw [hut j hjk] at hj;simp at hj;subst hj;rw [Addr.add_lit]
     have:j<cc.size:=by omega
     simp [World.cell?,hw,Array.getD,this]) (by omega) (fun v hv=>by
     obtain ⟨j,hj⟩:=List.mem_iff_getElem?.1 hv
     have hjk:j<k:=by have:=(List.getElem?_eq_some_iff.1 hj).1;omega
     rw [hut j hjk] at hj;simp at hj;subst hj;obtain ⟨q,_,_,q3,q4⟩:=hq j hjk;have:=q3.oneCell q4
     simpa [Array.getD_eq_getD_getElem?] using this)
    have hT:Turned w (w.setRow b2 (cc.toList.take of++us++cc.toList.drop (of+us.length)).toArray) b2 _ ty:=Turned.setRow hw
    have hsz:(cc.toList.take of++us++cc.toList.drop (of+us.length)).toArray.size=cc.size:=by simp;omega
    have hlx:(xs.take of++xs.take k++xs.drop (of+k)).length=xs.length:=by simp;omega
    have hgx: ∀i,(xs.take of++xs.take k++xs.drop (of+k))[i]? =if i<of then xs[i]? else if i<of+k then xs[i-of]? else xs[i]? :=fun i=>by
     by_cases c1:i<of
     ·rw [if_pos c1,List.append_assoc,List.getElem?_append_left (by simp;omega),List.getElem?_take_of_lt c1]
     ·rw [if_neg c1]
      by_cases c2:i<of+k
      ·rw [if_pos c2,List.append_assoc,List.getElem?_append_right (by simp;omega),List.getElem?_append_left (by simp;omega),List.length_take,List.getElem?_take_of_lt (by omega)]
       congr 1;omega
      ·rw [if_neg c2,List.getElem?_append_right (by simp;omega),List.getElem?_drop]
       congr 1;simp;omega
    have hgc: ∀i,i<cc.size->(cc.toList.take of++us++cc.toList.drop (of+us.length)).toArray.getD i undef=if i<of then cc.getD i undef else if i<of+k then cc.getD (i-of) undef else cc.getD i undef:=fun i hi=>by
     simp only [Array.getD_eq_getD_getElem?,List.getElem?_toArray]
     by_cases c1:i<of
     ·rw [if_pos c1,List.append_assoc,List.getElem?_append_left (by simp;omega),List.getElem?_take_of_lt c1];simp
     ·rw [if_neg c1]
      by_cases c2:i<of+k
      ·rw [if_pos c2,List.append_assoc,List.getElem?_append_right (by simp;omega),List.getElem?_append_left (by simp;omega),List.length_take]
       have:i-min of cc.toList.length=i-of:=by simp;omega
       rw [this,hut _ (by omega)];simp [Array.getD_eq_getD_getElem?]
      ·rw [if_neg c2,List.getElem?_append_right (by simp;omega),List.getElem?_drop]
       have:of+us.length+(i-(List.take of cc.toList++us).length)=i:=by simp;omega
       rw [this];simp
    have g:=Z1 (w':=w.setRow b2 (cc.toList.take of++us++cc.toList.drop (of+us.length)).toArray) (cap:=cap2) (xs':=xs.take of++xs.take k++xs.drop (of+k)) hr hH hT.os hT.tape hT.output
     (fun c0 t0 hc0=>by rw [hw] at hc0;simp at hc0;obtain ⟨rfl,rfl⟩:=hc0;exact ⟨rfl,hsz⟩) (by rw [hT.size];exact Nat.le_refl _) hT.at' (fun k _ hk=>hT.other k hk)
     (.inl ⟨hb,.inl ⟨hlx,fun c0 t0 hc0=>by rw [hw] at hc0;simp at hc0;obtain ⟨rfl,rfl⟩:=hc0;exact ⟨rfl,hsz⟩⟩⟩) (by rw [hsz];exact f3) (by rw [hlx];omega) f5
     (fun i q hi=>by
      rw [hgx] at hi
      split at hi
      ·exact f6 _ q hi
      ·split at hi
       ·exact f6 _ q hi
       ·exact f6 _ q hi)
     (fun i q j z hi hj=>by
      have hix:i<xs.length:=by rw [<- hlx];exact (List.getElem?_eq_some_iff.1 hi).1
      have key: ∀i',xs[i']? =some q->RP (Own F ι) w z (cc.getD i' undef)/\j=0:=fun i' hi'=>by
       have hl:=f6 i' q hi'
       have hj0:j=0:=by have:=(List.getElem?_eq_some_iff.1 hj).1;omega
       subst hj0;have:=f7 i' q 0 z hi' hj;simp only [Nat.mul_one,Nat.add_zero] at this;exact ⟨this,rfl⟩
      rw [hgx] at hi
      have hj0:j=0:=by
       split at hi
       ·exact (key _ hi).2
       ·split at hi
        ·exact (key _ hi).2
        ·exact (key _ hi).2
      subst hj0;rw [Nat.mul_one,Nat.add_zero,hgc i (by omega)]
      split at hi
      ·rename_i c1;rw [if_pos c1];exact (key _ hi).1
      ·rename_i c1;rw [if_neg c1]
       split at hi
       ·rename_i c2;rw [if_pos c2];exact (key _ hi).1
       ·rename_i c2;rw [if_neg c2];exact (key _ hi).1)
    have hio:ι.set ob (some b2)=ι:=by
     refine List.ext_getElem? fun i=> ?_;rw [List.getElem?_set]
     split
     ·rename_i hi;subst hi;split
      ·exact hb.symm
      ·rename_i hge;rw [List.getElem?_eq_none (by omega)]
     ·rfl
    rw [hio] at g
    exact ⟨_,.int .i64 (k:Nat),ι,_,by
     simp only [Nat.mul_one,Nat.zero_mul] at hxe hye
     simp [execOp,h,resolve,invoke,builtin,hxe,hye,hrun,hgo,hul],.inl rfl,g,.p _ _ (.int _ _)⟩
  | slD _ _ _ _ _ hd=>rw [hH] at hd;cases hd
  | slS _ _ _ _ _ S2 xs2 hd hne=>rw [hH] at hd;simp at hd;obtain ⟨_,rfl⟩:=hd;omega
  | slC _ _ _ _ _ _ hd=>rw [hH] at hd;cases hd
 | slD _ _ _ _ _ hd=>rw [hH] at hd;cases hd
 | slS _ _ _ _ _ S2 xs2 hd hne=>rw [hH] at hd;simp at hd;obtain ⟨_,rfl⟩:=hd;omega
 | slC _ _ _ _ _ _ hd=>rw [hH] at hd;cases hd
theorem Q7 {P:Program} (w:World) (dT sT ty elem:TypeId) (d a:Option Addr) (dLen dCap sLen sCap S:Nat) (hu:P.underlying dT=some (.slice elem)) (hs:(P.info? elem).map (·.size)=some S) (hn:Nat.min sLen dLen=0) :
  (Builtin.copy_ #[dT,sT] ty #[.slice d dLen dCap,.slice a sLen sCap]).run P w= .ok (goInt 0) w:=by
 cases hq:P.info? elem with
 | none=>simp [hq] at hs
 | some i =>
  have hl: ∀(x:Addr),(loadCells x 0).run P w= .ok #[] w:=fun x=>by simpa using run_loadCells_list (P:=P) w x [] (by simp)
  cases d<;>cases a<;>simp [Builtin.copy_,run_underlying hu,Builtin.lenOf,Builtin.firstCells,sizeOf,typeInfo,hq,hn,storeCells,hl]
theorem ZdN {P:Program} {o:Oper} {fr:List V} {H:List Obj} {t t2 e:TypeId} {x y:Operand} {ob of n tot S S':Nat} {c:Bool} {xs ys:List PV} (h:o.op= .call { callee:= .builtin .copy,args:= #[x,y],argTypes:= #[t,t2] })
  (hu:P.underlying t=some (.slice e)) (hs:(P.info? e).map (·.size)=some S) (hx:ev fr x= .sl ob of n tot) (hy:ev fr y= .p (.list c ys)) (hH:H[ob]? =some (.elems S' xs)) (hn:xs.length=tot) (h0:n=0\/ys= []) :
  OpS P o fr H (.p (.int .i64 0)) H:=fun F ι a w hr hf=>by
 have h1:=hf.ev x;have h2:=hf.ev y;rw [hx] at h1;rw [hy] at h2
 cases h2 with | p _ _ h2 =>
 have hgo: ∀k:Nat,goInt k= .int .i64 (k:Int):=fun k=>rfl
 have none': ∀(d s:Option Addr) (dl dc sl sc:Nat),a.eval x= .slice d dl dc->a.eval y= .slice s sl sc->Nat.min sl dl=0 ->
   ∃nx v ι' w',(execOp a.eval o).run P w= .ok nx w'/\(nx= .value v\/(nx= .skip/\v=undef))/\Good F H ι w H ι' w'/\RV F H ι' w' (.p (.int .i64 0)) v:=fun d s dl dc sl sc e1 e2 hz=>by
  have hrun:=Q7 (P:=P) w t t2 o.type e d s dl dc sl sc S hu hs hz;exact ⟨_,.int .i64 0,ι,w,by simp [execOp,h,resolve,invoke,builtin,e1,e2,hrun,hgo];rfl,.inl rfl,Good.refl hr,.p _ _ (.int _ _)⟩
 generalize hxe:a.eval x=vx at h1;generalize hye:a.eval y=vy at h2
 have go: ∀(d:Option Addr) (dc:Nat),vx= .slice d n dc-> ∃nx v ι' w',(execOp a.eval o).run P w= .ok nx w'/\(nx= .value v\/(nx= .skip/\v=undef))/\Good F H ι w H ι' w'/\RV F H ι' w' (.p (.int .i64 0)) v:=fun d dc hd=>by
  cases h2 with
  | nils=>exact none' _ _ _ _ _ _ (hxe.trans hd) hye (by simp [Nat.min_def])
  | emp=>exact none' _ _ _ _ _ _ (hxe.trans hd) hye (by simp [Nat.min_def])
  | list=>exact none' _ _ _ _ _ _ (hxe.trans hd) hye (by
    rcases h0 with rfl | rfl
    ·simp [Nat.min_def]
    ·simp [Nat.min_def])
 cases h1 with
 | slNil=>exact go _ _ rfl
 | sl=>exact go _ _ rfl
 | slD _ _ _ _ _ hd=>rw [hH] at hd;cases hd
 | slS _ _ _ _ _ S2 xs2 hd hne=>rw [hH] at hd;simp at hd;obtain ⟨_,rfl⟩:=hd;omega
 | slC _ _ _ _ _ _ hd=>rw [hH] at hd;cases hd
theorem Jp {P:Program} (w:World) (dT sT ty elem:TypeId) (g dLen dCap:Nat) (a:Addr) (sLen sCap S:Nat) (cur:Array Value) (t:TypeId) (cs:List Value)
  (hu:P.underlying dT=some (.slice elem)) (hs:(P.info? elem).map (·.size)=some S) (hg:w.heap[g]? =some (.cells cur t (0,0))) (hn:cs.length=Nat.min sLen dLen*S)
  (hsrc: ∀j v,cs[j]? =some v->w.cell? (a.add j)=some v) (hfit:cs.length<=cur.size) (h1: ∀v∈cs,v.oneCell'=true) :
  (Builtin.copy_ #[dT,sT] ty #[.slice (some ⟨g,0,none⟩) dLen dCap,.slice (some a) sLen sCap]).run P w= .ok (goInt (Nat.min sLen dLen)) (w.setRow g (cs++cur.toList.drop cs.length).toArray):=by
 have hl:=run_loadCells_list (P:=P) w a cs hsrc;have hst:=run_storeCells_at P g 0 t cs 0 cur w hg (by simpa using hfit) h1;simp only [Nat.add_zero,Nat.zero_add,List.take_zero,List.nil_append] at hst
 cases hq:P.info? elem with
 | none=>simp [hq] at hs
 | some i =>
  have hi:i.size=S:=by simpa [hq] using hs
  simp [Builtin.copy_,run_underlying hu,Builtin.lenOf,Builtin.firstCells,sizeOf,typeInfo,hq,hi,<- hn,hl,hst]
theorem Zez {P:Program} {o:Oper} {fr:List V} {H:List Obj} {t t2 e:TypeId} {x y:Operand} {ob n S:Nat} {c:Bool} {xs ys:List PV} (h:o.op= .call { callee:= .builtin .copy,args:= #[x,y],argTypes:= #[t,t2] })
  (hu:P.underlying t=some (.slice e)) (hs:(P.info? e).map (·.size)=some S) (hS:0<S) (hx:ev fr x= .sl ob 0 n n) (hy:ev fr y= .p (.list c ys)) (hH:H[ob]? =some (.elems S xs)) (hn:xs.length=n) (hle:ys.length<=n) (h0:0<ys.length) (hone: ∀q∈ys,q.cells.length=S/\ ∀z∈q.cells,z.one=true) :
  OpS P o fr H (.p (.int .i64 (ys.length:Nat))) (H.set ob (.elems S (ys++xs.drop ys.length))):=fun F ι a w hr hf=>by
 have h1:=hf.ev x;have h2:=hf.ev y;rw [hx] at h1;rw [hy] at h2
 cases h2 with | p _ _ h2 =>
 have hgo: ∀k:Nat,goInt k= .int .i64 (k:Int):=fun k=>rfl;generalize hxe:a.eval x=vx at h1;generalize hye:a.eval y=vy at h2
 cases h2 with
 | nils=>simp at h0
 | emp=>simp at h0
 | list _ _ b3 off cap3 S3 u hX hb3 hc3 hm3 hcl hS3 hu3 hr3 =>
 have hS3:S3=S:=by
  have e:=List.getElem?_eq_getElem h0;rw [<- hS3 0 _ e];exact (hone _ (List.getElem_mem h0)).1
 subst hS3
 cases h1 with
 | slNil=>omega
 | sl _ _ _ _ b S' cap ty xs2 cc hb hH2 ht hw hcap hl hlen hm =>
  rw [hH] at hH2;simp at hH2;obtain ⟨rfl,rfl⟩:=hH2;rcases hr.elm ob S3 xs hH with ⟨e1,e2⟩ | ⟨b2,c2,t3,cap2,f1,f2,f3,f4,f5,f6,f7⟩
  ·rw [e1] at hb;cases hb
  ·have:b2=b:=by rw [hb] at f1;simpa using f1.symm
   subst this;rw [hw] at f2;simp at f2;obtain ⟨rfl,rfl⟩:=f2;obtain ⟨us,hus⟩: ∃us,us=(List.range (ys.length*S3)).map fun q=>u (q / S3) (q%S3):=⟨_,rfl⟩
   have hul:us.length=ys.length*S3:=by simp [hus]
   have hut: ∀q,q<ys.length*S3->us[q]? =some (u (q / S3) (q%S3)):=fun q hq=>by simp [hus,List.getElem?_range hq]
   have hcellq: ∀q,q<ys.length*S3-> ∃y z,ys[q / S3]? =some y/\y.cells[q%S3]? =some z/\z.one=true:=fun q hq=>by
    have hi:q / S3<ys.length:=Nat.div_lt_of_lt_mul (by rwa [Nat.mul_comm]);have e:=List.getElem?_eq_getElem hi;obtain ⟨g1,g2⟩:=hone _ (List.getElem_mem hi)
    have hj:q%S3<(ys[q / S3]).cells.length:=by rw [g1];exact Nat.mod_lt _ hS
    exact ⟨_,_,e,List.getElem?_eq_getElem hj,g2 _ (List.getElem_mem hj)⟩
   have hmul:ys.length*S3<=cc.size:=by rw [f3];exact Nat.mul_le_mul_right _ (by omega)
   have hrun:=Jp w t t2 o.type e b2 n cap ⟨b3,off,none⟩ ys.length cap3 S3 cc ty us hu hs (by simpa using hw) (by rw [hul,show Nat.min ys.length n=ys.length from Nat.min_eq_left hle]) (fun q v hq=>by
    have hlt:q<ys.length*S3:=by have:=(List.getElem?_eq_some_iff.1 hq).1;omega
    rw [hut q hlt] at hq;simp at hq;subst hq;obtain ⟨y,z,g1,g2,_⟩:=hcellq q hlt;have:=hu3 _ y _ z g1 g2;rw [Addr.add_lit];rw [Nat.add_assoc,Nat.div_add_mod' q S3] at this
    exact this) (by omega) (fun v hv=>by
    obtain ⟨q,hq⟩:=List.mem_iff_getElem?.1 hv
    have hlt:q<ys.length*S3:=by have:=(List.getElem?_eq_some_iff.1 hq).1;omega
    rw [hut q hlt] at hq;simp at hq;subst hq;obtain ⟨y,z,g1,g2,g3⟩:=hcellq q hlt
    exact (hr3 _ y _ z g1 g2).oneCell g3)
   have hT:Turned w (w.setRow b2 (us++cc.toList.drop us.length).toArray) b2 _ ty:=Turned.setRow hw
   have hsz:(us++cc.toList.drop us.length).toArray.size=cc.size:=by simp;omega
   have hlx:(ys++xs.drop ys.length).length=xs.length:=by simp;omega
   have g:=Z1 (w':=w.setRow b2 (us++cc.toList.drop us.length).toArray) (cap:=cap2) (xs':=ys++xs.drop ys.length) hr hH hT.os hT.tape hT.output
    (fun c0 t0 hc0=>by rw [hw] at hc0;simp at hc0;obtain ⟨rfl,rfl⟩:=hc0;exact ⟨rfl,hsz⟩) (by rw [hT.size];exact Nat.le_refl _) hT.at' (fun k _ hk=>hT.other k hk)
    (.inl ⟨hb,.inl ⟨hlx,fun c0 t0 hc0=>by rw [hw] at hc0;simp at hc0;obtain ⟨rfl,rfl⟩:=hc0;exact ⟨rfl,hsz⟩⟩⟩) (by rw [hsz];exact f3) (by rw [hlx];exact f4) f5
    (fun i q hi=>by
     by_cases hlt:i<ys.length
     ·rw [List.getElem?_append_left hlt] at hi;exact (hone q (List.mem_of_getElem? hi)).1
     ·rw [List.getElem?_append_right (by omega),List.getElem?_drop] at hi
      exact f6 _ q hi)
    (fun i q j z hi hj=>by
     have hjl:=(List.getElem?_eq_some_iff.1 hj).1
     by_cases hlt:i<ys.length
     ·rw [List.getElem?_append_left hlt] at hi;rw [(hone q (List.mem_of_getElem? hi)).1] at hjl
      have hq:i*S3+j<ys.length*S3:=by
       have:(i+1)*S3<=ys.length*S3:=Nat.mul_le_mul_right _ hlt;rw [Nat.add_mul,Nat.one_mul] at this;omega
      have e1:(us++cc.toList.drop us.length).toArray.getD (i*S3+j) undef=u i j:=by
       simp only [Array.getD_eq_getD_getElem?,List.getElem?_toArray];rw [List.getElem?_append_left (by omega),hut _ hq];rw [Nat.add_comm,Nat.add_mul_div_right _ _ hS,Nat.div_eq_of_lt hjl,Nat.add_mul_mod_self_right,Nat.mod_eq_of_lt hjl];simp
      rw [e1];exact hr3 i q j z hi hj
     ·rw [List.getElem?_append_right (by omega),List.getElem?_drop] at hi;have hl6:=f6 _ q hi;have:=f7 _ q j z hi hj
      have e1:(us++cc.toList.drop us.length).toArray.getD (i*S3+j) undef=cc.getD ((ys.length+(i-ys.length))*S3+j) undef:=by
       have hge:ys.length*S3<=i*S3:=Nat.mul_le_mul_right _ (by omega);simp only [Array.getD_eq_getD_getElem?,List.getElem?_toArray];rw [List.getElem?_append_right (by omega),List.getElem?_drop,hul];rw [show ys.length*S3+(i*S3+j-ys.length*S3)=i*S3+j by omega,show ys.length+(i-ys.length)=i by omega];simp
      rw [e1];exact this)
   have hio:ι.set ob (some b2)=ι:=by
    refine List.ext_getElem? fun i=> ?_;rw [List.getElem?_set]
    split
    ·rename_i hi;subst hi;split
     ·exact hb.symm
     ·rename_i hge;rw [List.getElem?_eq_none (by omega)]
    ·rfl
   rw [hio] at g
   exact ⟨_,.int .i64 (ys.length:Nat),ι,_,by
    simp only [Nat.zero_mul] at hxe
    simp [execOp,h,resolve,invoke,builtin,hxe,hye,hrun,hgo,show Nat.min ys.length n=ys.length from Nat.min_eq_left hle],.inl rfl,g,.p _ _ (.int _ _)⟩
 | slD _ _ _ _ _ hd=>rw [hH] at hd;cases hd
 | slS _ _ _ _ _ S2 xs2 hd hne=>rw [hH] at hd;simp at hd;obtain ⟨_,rfl⟩:=hd;omega
 | slC _ _ _ _ _ _ hd=>rw [hH] at hd;cases hd
end Go.AM
