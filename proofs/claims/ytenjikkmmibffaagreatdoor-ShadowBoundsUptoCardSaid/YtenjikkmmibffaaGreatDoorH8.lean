/- Declarations that the closing texts need, part 8: joined by tools/slim.py. -/
import Derived.Test.YtenjikkmmibffaaGreatDoorH7
import Derived.Laws.IdiomCopy
set_option linter.unusedVariables false
set_option linter.unusedSimpArgs false
namespace Go.AM
open Go.RowKit
theorem Ol {P:Program} {o:Oper} {fr:List V} {H:List Obj} {t t2 e:TypeId} {x y:Operand} {ob n:Nat} {c:Bool} {xs ys:List PV} (h:o.op= .call { callee:= .builtin .copy,args:= #[x,y],argTypes:= #[t,t2] })
  (hu:P.underlying t=some (.slice e)) (hs:(P.info? e).map (·.size)=some 1) (hx:ev fr x= .sl ob 0 n n) (hy:ev fr y= .p (.list c ys)) (hH:H[ob]? =some (.elems 1 xs)) (hn:xs.length=n) (hle:ys.length<=n) (hone: ∀q∈ys,q.one=true) :
  OpS P o fr H (.p (.int .i64 (ys.length:Nat))) (H.set ob (.elems 1 (ys++xs.drop ys.length))):=fun F ι a w hr hf=>by
 have h1:=hf.ev x;have h2:=hf.ev y;rw [hx] at h1;rw [hy] at h2
 cases h2 with | p _ _ h2 =>
 have hgo: ∀k:Nat,goInt k= .int .i64 (k:Int):=fun k=>rfl
 have same:ys= []->H.set ob (.elems 1 (ys++xs.drop ys.length))=H:=fun h=>by grind [Dq]
 have none': ∀(d s:Option Addr) (dl dc sl sc:Nat),a.eval x= .slice d dl dc->a.eval y= .slice s sl sc->Nat.min sl dl=0->ys= [] ->
   ∃nx v ι' w',(execOp a.eval o).run P w= .ok nx w'/\(nx= .value v\/(nx= .skip/\v=undef))/\Good F H ι w (H.set ob (.elems 1 (ys++xs.drop ys.length))) ι' w'/\RV F (H.set ob (.elems 1 (ys++xs.drop ys.length))) ι' w' (.p (.int .i64 (ys.length:Nat))) v:=fun d s dl dc sl sc e1 e2 h0 hys=>by
  have hrun:=run_copy_none (P:=P) w t t2 o.type e d s dl dc sl sc hu hs h0;rw [same hys];subst hys;exact ⟨_,.int .i64 0,ι,w,by simp [execOp,h,resolve,invoke,builtin,e1,e2,hrun];rfl,.inl rfl,Good.refl hr,.p _ _ (.int _ _)⟩
 generalize hxe:a.eval x=vx at h1;generalize hye:a.eval y=vy at h2
 cases h1 with
 | slNil _ S ad hi hH2 =>
  rw [hH] at hH2;simp at hH2;obtain ⟨rfl,rfl⟩:=hH2;have hys:ys= []:=YG Za
  cases h2 with
  | nils=>grind
  | emp=>grind
  | list=>grind
 | sl _ _ _ _ b S cap ty xs2 cc hb hH2 ht hw hcap hl hlen hm =>
  rw [hH] at hH2;simp at hH2;obtain ⟨rfl,rfl⟩:=hH2;rcases hr.elm ob 1 xs hH with ⟨e1,e2⟩ | ⟨b2,c2,t3,cap2,f1,f2,f3,f4,f5,f6,f7⟩
  ·grind
  ·have:b2=b:=by grind
   subst this;rw [hw] at f2;simp at f2;obtain ⟨rfl,rfl⟩:=f2
   have hkey: ∀(sa:Addr) (sc:Nat) (us:List Value),a.eval y= .slice (some sa) ys.length sc->us.length=ys.length->(∀j v,us[j]? =some v->w.cell? (sa.add j)=some v)->(∀v∈us,v.oneCell'=true)->(∀(j:Nat) (q:PV),ys[j]? =some q->RP (Own F ι) w q (us.getD j undef)) ->
     ∃nx v ι' w',(execOp a.eval o).run P w= .ok nx w'/\(nx= .value v\/(nx= .skip/\v=undef))/\Good F H ι w (H.set ob (.elems 1 (ys++xs.drop ys.length))) ι' w'/\RV F (H.set ob (.elems 1 (ys++xs.drop ys.length))) ι' w' (.p (.int .i64 (ys.length:Nat))) v:=fun sa sc us he hul hcell hone' hrp=>by
    have hmin:us.length=Nat.min ys.length n:=by grind
    have hrun:=run_copy_row P w t t2 o.type e b2 0 n cap sa ys.length sc cc ty us hu hs hw hmin hcell Za hone';have hT:Turned w (w.setRow b2 (cc.toList.take 0++us++cc.toList.drop (0+us.length)).toArray) b2 _ ty:=Turned.setRow hw
    have hsz:(cc.toList.take 0++us++cc.toList.drop (0+us.length)).toArray.size=cc.size:=by simp;omega
    have g:=YP (w':=w.setRow b2 (cc.toList.take 0++us++cc.toList.drop (0+us.length)).toArray) (cap:=cap2) (xs':=ys++xs.drop ys.length) hr hH hT.os hT.tape hT.output
     (fun c0 t0 hc0=>by grind) Zb hT.at' (fun k _ hk=>hT.other k hk)
     (.inl ⟨hb,.inl ⟨by simp;omega,fun c0 t0 hc0=>by grind⟩⟩) Za (by simp;omega) f5
     (fun i q hi=>by
      grind [PV.cells_one])
     (fun i q j z hi hj=>by
      have hq1:q.cells.length=1:=by
       grind [PV.cells_one]
      have hj0:j=0:=by grind
      subst hj0
      by_cases hlt:i<ys.length
      ·rw [YZ hlt] at hi;have hq:=hone q (XG hi);rw [PV.cells_one hq] at hj;simp at hj;subst hj
       have e1:(cc.toList.take 0++us++cc.toList.drop (0+us.length)).toArray.getD (i*1+0) undef=us.getD i undef:=by
        simp [XK,YZ (show i<us.length by omega),Ki]
       grind
      ·rw [VO Za,List.getElem?_drop] at hi;have:=f7 _ q 0 z hi hj
       have e1:(cc.toList.take 0++us++cc.toList.drop (0+us.length)).toArray.getD (i*1+0) undef=cc.getD ((ys.length+(i-ys.length))*1+0) undef:=by
        simp only [XK,CR,Vq,ZD,Xt,Nat.mul_one,VN]
        grind
       grind)
    have hio:ι.set ob (some b2)=ι:=by
     refine Kb fun i=> ?_
     grind
    rw [hio] at g;exact ⟨_,.int .i64 (ys.length:Nat),ι,_,by simp [execOp,h,resolve,invoke,builtin,hxe,he,hrun,hgo,hul],.inl rfl,g,.p _ _ (.int _ _)⟩
   cases h2 with
   | nils=>grind
   | emp=>grind
   | list _ _ b3 off cap3 S3 u hX hb3 hc3 hm3 hcl hS hu3 hr3 =>
    have hcell: ∀(j:Nat) (q:PV),ys[j]? =some q->w.cell? ⟨b3,off+j,none⟩=some (u j 0)/\RP (Own F ι) w q (u j 0):=fun j q hq=>by
     have h1:=hone q (XG hq)
     have hS1:S3=1:=by grind [PV.cells_one]
     have e1:=hu3 j q 0 q hq (by rw [PV.cells_one h1];rfl)
     grind [PV.cells_one]
    refine hkey ⟨b3,off,none⟩ cap3 ((List.range ys.length).map fun i=>u i 0) hye Zb (fun j v hj=> ?_) (fun v hv=> ?_) (fun j q hq=> ?_)
    ·rw [Addr.add_lit];simp only [Xs,ZV] at hj;obtain ⟨i,hi,rfl⟩:=hj
     have hlt:j<ys.length:=by grind
     rw [List.getElem?_range hlt] at hi;simp at hi;subst hi;exact (hcell j ys[j] Zb).1
    ·obtain ⟨i,hi,rfl⟩:=Xn.1 hv
     have hlt:i<ys.length:=by grind
     exact (hcell i ys[i] Zb).2.oneCell (hone _ (QS hlt))
    grind

 | slD _ _ _ _ _ hd=>grind
 | slS _ _ _ _ _ S2 xs2 hd hne=>grind
 | slC _ _ _ _ _ _ hd=>grind
theorem Lq (n:Nat) {P:Program} {id:Nat} {l:List Oper} {o:Oper} {fr:List V} {H:List Obj} {Q:Exit->List V->List Obj->Prop} (ho:l=l.take n++o::l.drop (n+1)) (hg:o.guard=none)
  (h:YS P (l.map (·.dst)) (l.take n) fr H fun fr' H'=> ∃y H2,OpS P o fr' H' y H2/\YS P (l.map (·.dst)) (l.drop (n+1)) (UQ fr' o.dst y) H2 (Q .normal)):AWP P (.region id (List.toArray l) false) fr H Q:=by
 intro F ι a w hr hf;refine wp_region_list ?_;have key:=VB (P:=P) (ops:=List.toArray l) (Q:=fun e a' w'=> ∃fr' H' ι',Q e fr' H'/\Good F H ι w H' ι' w'/\Fr F H' ι' w' fr' a') (r:=o::l.drop (n+1)) (l.take n) fr H _ (by simpa using h) F ι a w hr hf ?_
 ·grind
 ·rintro fr' H' ι' a' w' ⟨y,H2,hp,hk⟩ g f;simp only [wpList]
  have hw:Region.wanted o (yielded (List.toArray l) a'.tmps)=true:=by simp [Region.wanted,hg]
  rw [if_pos hw];refine .inl ?_;refine qP hp g.rel f fun ι2 v w2 g2 hrv=> ?_;exact Yg (P:=P) (ops:=List.toArray l) _ _ H2 _ Za F ι2 _ w2 g2.rel ((g2.fr f).put o.dst hrv) fun fr2 H3 ι3 a3 w3 k3 g3 f3=>⟨fr2,H3,ι3,k3,(g.trans g2).trans g3,f3⟩
def Rx (l:List Oper):List (Nat×V)->List V->List V
 | [],fr=>fr
 | (m,y)::dn,fr=>UQ (Rx l dn fr) (Xb l m).dst y
theorem De (l:List Oper): ∀(dn:List (Nat×V)) (fr:List V),(Rx l dn fr).length=fr.length
 | [],_=>rfl
 | (m,y)::dn,fr=>by rw [Rx,wC,De l dn fr]
theorem Ml (l:List Oper) {x:V} {t:Nat} : ∀(dn:List (Nat×V)) (fr:List V),(Rx l dn fr)[t]? =some x->(∃p,p∈dn/\(Xb l p.1).dst=some t/\x=p.2/\t<fr.length)\/fr[t]? =some x
 | [],_,h=> .inr h
 | (m,y)::dn,fr,h=>by
  rcases wB h with ⟨h1,h2,h3⟩ | ⟨_,h2⟩
  ·exact .inl ⟨(m,y),Zb,h1,h2,by rw [De] at h3;exact h3⟩
  ·rcases Ml l dn fr h2 with ⟨p,h3,h4⟩ | h3
   ·exact .inl ⟨p,by simp [h3],h4⟩
   ·exact .inr h3
theorem D5 (l:List Oper) {R:List Nat} {f1 f2:List V} (hl:f1.length=f2.length) (h:QL R f1 f2): ∀dn,QL R (Rx l dn f1) (Rx l dn f2)
 | []=>h
 | (m,y)::dn=>fun t ht=>by
  have ih:=D5 l hl h dn t ht
  have hl2:(Rx l dn f1).length=(Rx l dn f2).length:=by grind [De]
  simp only [Rx]
  cases (Xb l m).dst with
  | none=>exact ih
  | some d =>
   grind [UQ,V6,NM]
def QB (l:List Oper) (rem:List Nat):List Nat:=rem.filter fun m=>rem.all fun m'=> !(ZQ m (Xb l m)).contains m'
def KC (P:Program) (H:List Obj) (l:List Oper):Nat->List Nat->List V->List Obj->(List V->List Obj->Prop)->Prop
 | 0,_,fr,L,K=>K fr L
 | n+1,rem,fr,L,K=> ∀m∈QB l rem,∃y L',Zy P (Xb l m) fr (H++L) (fun x H'=>x=y/\H'=H++L')/\KC P H l n (rem.erase m) (UQ fr (Xb l m).dst y) L' K
def ZhK (P:Program) (F:Nat->Prop) (H:List Obj) (l:List Oper) (ms:List Nat) (bs:List V) (K:List V->List Obj->Prop) (ds:List (Option Nat)) (fr vals:List V) (n:Nat) (ι0:List (Option Nat)) (w0:World) (listed:Array Bool) (a:Act) (w:World):Prop :=
 ∃(rem:List Nat) (dn:List (Nat×V)) (L:List Obj),rem.Nodup/\(∀m∈rem,m∈ms)/\(∀m∈ms,listed.getD m false=decide (m ∉ rem))/\(∀p∈dn,p.1∈ms/\p.1 ∉ rem)/\KC P H l rem.length rem (Rx l dn bs) L K /\
  ∃ι ιL,ι.length=H.length/\Mid (Own F ιL) H ds fr vals n listed ι a w/\Good F H ι0 w0 (H++L) (ι++ιL) w /\
   ∀p∈dn,∀d,(Xb l p.1).dst=some d->d<fr.length->RV F (H++L) (ι++ιL) w p.2 (a.tmps.getD d undef)
theorem Pg {P:Program} {ops:Array Oper} {Q:Exit->Act->World->Prop} {F H fr vals} {n:Nat} {l:List Oper} {ms:List Nat} {K:List V->List Obj->Prop} (hol:ops.toList=l) (hB:Ve ops n=true) (hvl:vals.length=n)
  (hms: ∀m∈ms,m<n/\ops[m]? =some (Xb l m)/\(Xb l m).guard=none/\vals[m]? =some .junk)
  (hrd: ∀m∈ms,∀t∈U9 (Xb l m).op,∀j,j<n->(ops.toList.map (·.dst))[j]? =some (some t)->j∈ZQ m (Xb l m))
  (hok: ∀(i:Nat) (o:Oper),i<n->i ∉ ms->ops[i]? =some o->FE P (ops.toList.map (·.dst)) (Z5 ((ops.toList.map (·.dst)).take n) fr) H vals i o) {ι0 w0}
  (ht: ∀fr' L ι a w,K fr' L->Good F H ι0 w0 (H++L) ι w->Fr F (H++L) ι w fr' a->wpList P ops Q (ops.toList.drop n) a w) :
  ∀(u:Nat) (listed:Array Bool) (a:Act) (w:World),HeadInv .any ops n listed->((List.range n).filter fun i=> !listed.getD i false).length=u ->
   ZhK P F H l ms (ZS (ops.toList.map (·.dst)) vals (List.range n) (Z5 ((ops.toList.map (·.dst)).take n) fr)) K (ops.toList.map (·.dst)) fr vals n ι0 w0 listed a w->wpAny P .any ops Q (u+(ops.size-n)) listed a w:=by
 simp only [Ve,ZE,Zs,W8] at hB;obtain ⟨⟨⟨⟨hn,hsc⟩,hea⟩,hap⟩,hseq⟩:=hB
 have hdl:n<=(ops.toList.map (·.dst)).length:=by grind
 -- the frame at late operations done, azs far azs is listed
 have frAt: ∀ {dn:List (Nat×V)} {L:List Obj} {listed:Array Bool} {ι ιL:List (Option Nat)} {a:Act} {w:World} (ls:List Nat),(∀j∈ls,j<n/\listed.getD j false=true)->Mid (Own F ιL) H (ops.toList.map (·.dst)) fr vals n listed ι a w ->
   (∀p∈dn,∀d,(Xb l p.1).dst=some d->d<fr.length->RV F (H++L) (ι++ιL) w p.2 (a.tmps.getD d undef)) ->
   Fr F (H++L) (ι++ιL) w (Rx l dn (ZS (ops.toList.map (·.dst)) vals ls (Z5 ((ops.toList.map (·.dst)).take n) fr))) a:=fun {dn L listed ι ιL a w} ls hls mid slot=>by
  obtain ⟨f1,f2,f3⟩:=mid.fr ls hls;refine ⟨by rw [De];exact f1,f2,fun t x hx=> ?_⟩;rcases Ml l dn _ hx with ⟨p,h1,h2,rfl,h4⟩ | h1
  ·grind [Yy,YK]
  ·exact (f3 t x h1).widen
 intro u
 induction u with
 | zero =>
  intro listed a w inv hm mid
  have hall: ∀i,i<n->listed.getD i false=true:=fun i hi=>by
   have h0:=YG hm
   have:i ∉ (List.range n).filter fun i=> !listed.getD i false:=by rw [h0];simp
   grind
  have hl:listed=Array.replicate n true++Array.replicate (ops.size-n) false:=by
   refine Array.ext (by simp [inv.size];omega) fun i h1 h2=> ?_
   by_cases hi:i<n
   ·have:=hall i hi;rw [Array.getElem_append_left (by grind)];simp [h1] at this;simp [this]
   ·have:=inv.tail i Za (by grind);rw [Array.getElem_append_right (by simp;omega)];simp [h1] at this;simp [this]
  obtain ⟨rem,dn,L,hnd,hrm,hst,hdn,hlt,ι,ιL,hιl,mid,gd,slot⟩:=mid
  have hs:rem= []:=by
   cases rem with
   | nil=>rfl
   | cons m r =>
    have h1:=hst m (hrm m Zb)
    grind
  subst hs;have hw:=ht _ L (ι++ιL) a w hlt gd (frAt (List.range n) (fun j hj=>⟨Zz.1 hj,hall j (Zz.1 hj)⟩) mid slot);have:=wpAny_of_seq (md:= .any) (Q':=Q) (ops.toList.drop n) n listed a w (fun j=>Zb) (by grind) hw
  grind
 | succ u ih =>
  intro listed a w inv hm mid
  have hun: ∃i,i<n/\listed.getD i false=false:=by
   cases hf:(List.range n).filter fun i=> !listed.getD i false with
   | nil=>grind
   | cons i l =>
    have:i∈(List.range n).filter fun i=> !listed.getD i false:=by rw [hf];simp
    grind
  have hsz: ∀ {i},i<n->i<listed.size:=fun h=>by rw [inv.size];omega
  have hready:Region.ready .any ops listed≠ []:=by
   obtain ⟨i,hi,hu⟩:=hun
   have: ∃i,i<n/\listed.getD i false=false/\ ∀j,j<i->listed.getD j false=true:=by
    induction i using Nat.strongRecOn with
    | _ i ihh =>
     by_cases hex: ∃j,j<i/\listed.getD j false=false
     ·obtain ⟨j,hj,hju⟩:=hex;exact ihh j hj Za hju
     grind
   obtain ⟨i,hi,hu,hmin⟩:=this;intro h0
   have:i∈Region.ready .any ops listed:=by
    have hlt:i<ops.size:=Za
    refine mem_ready.2 ⟨getD_in (hsz hi) hu,ops[i],by simp [hlt],fun e he hb=> ?_⟩;have h1:=Zx.1 hea i (Zz.2 hi)
    grind [E7]
   grind
  rw [show u+1+(ops.size-n)=(u+(ops.size-n))+1 by omega];refine ⟨fun h0=>absurd h0 hready,fun i hi=> ?_⟩
  have hin:i<n:=by
   rcases hsc with h | ⟨hs,hc⟩
   ·obtain ⟨_,o,ho,_⟩:=mem_ready.1 hi
    grind
   ·rcases WM i n with h | h
    ·exact h
    ·obtain ⟨k,hk,hu⟩:=hun
     by_cases hne:n<ops.size
     ·exact absurd hi (tail_waits hs hc hne inv _ k rfl hk (getD_in (hsz hk) hu) i h)
     grind [mem_ready]
  obtain ⟨hiu,o,ho,hall⟩:=mem_ready.1 hi
  have hds:(ops.toList.map (·.dst))[i]? =some o.dst:=by simp [ho]
  have hdeps: ∀j∈ZQ i o,j<n/\listed.getD j false=true:=fun j hj=>by
   refine ⟨by have:=Ws j hj;omega,?_⟩;simp [ZQ] at hj
   grind
  have hcount:((List.range n).filter fun k=> !(listed.setIfInBounds i true).getD k false).length=u:=by
   have e:((List.range n).filter fun k=> !(listed.setIfInBounds i true).getD k false)=((List.range n).filter fun k=> !listed.getD k false).filter (fun k=>k≠i):=by
    rw [List.filter_filter];refine QR fun k hk=> ?_
    by_cases hki:k=i
    ·subst hki;simp [hsz hin]
    ·rw [getD_set_ne false (fun h=>hki h.symm)];simp [hki]
   rw [e]
   have hmem:i∈(List.range n).filter fun k=> !listed.getD k false:=by
    grind
   have hnd:((List.range n).filter fun k=> !listed.getD k false).Nodup:=List.nodup_range.filter _;have:=Fa hnd i
   grind
  have next: ∀v w',ZhK P F H l ms (ZS (ops.toList.map (·.dst)) vals (List.range n) (Z5 ((ops.toList.map (·.dst)).take n) fr)) K (ops.toList.map (·.dst)) fr vals n ι0 w0 (listed.setIfInBounds i true) (a.put o.dst v) w'->wpAny P .any ops Q (u+(ops.size-n)) (listed.setIfInBounds i true) (a.put o.dst v) w':=fun v w' h =>
   ih _ _ w' (inv.set hi hin) hcount h
  have hiu2:listed.getD i false=false:=getD_both hiu;obtain ⟨rem,dn,L,hnd,hrm,hst,hdn,hlt,ι,ιL,hιl,mid,gd,slot⟩:=mid
  -- a slot that this operation does not write
  have hoth: ∀ {e:Nat} {v:Value},o.dst≠some e->((a.put o.dst v).tmps).getD e undef=a.tmps.getD e undef:=fun {e v} hne=>by
   cases hdst:o.dst with
   | none=>rfl
   | some d =>
    have hne2:d≠e:=fun h=>hne (by rw [hdst,h]);simp [Act.put,XK,DS hne2]
  have hapart: ∀ {j e:Nat},j<n->j≠i->(ops.toList.map (·.dst))[j]? =some (some e)->o.dst≠some e:=fun {j e} hj hji hd h=>by
   have:=Zx.1 (Zx.1 hap i (Zz.2 hin)) j (Zz.2 hj)
   grind
  have hdm: ∀m∈ms,(ops.toList.map (·.dst))[m]? =some (Xb l m).dst:=fun m hm=>by
   grind
  unfold wpOp;simp only [ho]
  by_cases him:i∈ms
  ·-- a late one
   obtain ⟨_,hom,hgm,hvm⟩:=hms i him;rw [hom] at ho;simp at ho;subst ho
   have hir:i∈rem:=by
    grind
   have hrl:i∈QB l rem:=by
    rw [QB,QX]
    grind
   obtain ⟨k,hk⟩: ∃k,rem.length=k+1:=⟨rem.length-1,by grind⟩;rw [hk] at hlt;obtain ⟨y,L',hstep,hlt'⟩:=hlt i hrl
   let ls:=(List.range n).filter fun j=>listed.getD j false
   have hls: ∀j∈ls,j<n/\listed.getD j false=true:=fun j hj=>by grind
   have hfr:=frAt (dn:=dn) (L:=L) ls hls mid slot
   have hag:QL (U9 (Xb l i).op) (ZS (ops.toList.map (·.dst)) vals ls (Z5 ((ops.toList.map (·.dst)).take n) fr)) (ZS (ops.toList.map (·.dst)) vals (List.range n) (Z5 ((ops.toList.map (·.dst)).take n) fr)) :=
    BE hap hdl hvl (fun j hj=>(hls j hj).1) fun t ht j hj hd=>by
     have:=hdeps j (hrd i him t ht j hj hd);simpa [ls] using this
   have hl:=(KQ (D5 l (by simp [Yy]) hag dn)).2 hstep
   have hw:Region.wanted (Xb l i) (yielded ops a.tmps)=true:=by simp [Region.wanted,hgm]
   rw [if_pos hw];refine .inl (QH hl gd.rel hfr fun x H' ι' v w' hk g r=> ?_);obtain ⟨hx,rfl⟩:=hk;subst hx
   obtain ⟨ι1,ιL',rfl,hl1⟩: ∃ι1 ιL',ι'=ι1++ιL'/\ι1.length=H.length:=⟨ι'.take H.length,ι'.drop H.length,(List.take_append_drop _ _).symm,by
    have:=g.rel.len;rw [ZJ] at this
    simp;omega⟩
   have trans: ∀ {x:V} {v:Value},RV (Own F ιL) H ι w x v->RV (Own F ιL') H ι1 w' x v:=fun {x v} h=>(g.rv h.widen).narrow hl1 h.refB
   have ZS: ∀m∈ms,(listed.setIfInBounds i true).getD m false=decide (m ∉ rem.erase i):=fun m hm=>by
    by_cases e:m=i
    ·subst e;simp [hsz hin,hnd.not_mem_erase]
    ·rw [getD_set_ne false (fun h=>e h.symm),hst m hm]
     grind
   have hpi: ∀p∈dn,p.1≠i:=fun p hp e=>(hdn p hp).2 (e ▸ hir);refine next v w' ⟨rem.erase i,(i,x)::dn,L',hnd.erase i,fun m hm=>hrm m (List.mem_of_mem_erase hm),ZS,fun p hp=> ?_,?_,ι1,ιL',hl1,⟨g.rel.front hl1 mid.rel.refH,?_,?_,fun t z ht' hnt=> ?_,fun j e z hj hlj hd hz hlt=> ?_⟩,gd.trans g,fun p hp d hd hlt=> ?_⟩
   ·rcases Z4.1 hp with rfl | hp
    ·grind
    grind
   ·have:(rem.erase i).length=k:=by grind
    rw [this];exact hlt'
   ·cases (Xb l i).dst<;>simp [Act.put,mid.size]
   ·cases (Xb l i).dst<;>exact mid.defers
   ·rw [hoth (fun e=>hnt (by
     rw [Xf]
     exact ⟨i,by grind⟩))]
    exact trans (mid.old t z ht' hnt)
   ·by_cases hij:j=i
    ·subst hij;rw [hvm] at hz;simp at hz;subst hz;exact .junk _
    ·have hl':listed.getD j false=true:=by rwa [getD_set_ne false (fun h=>hij h.symm)] at hlj
     rw [hoth (hapart hj hij hd)];exact trans (mid.new j e z hj hl' hd hz hlt)
   ·rcases Z4.1 hp with rfl | hp
    ·simp only at hd;rw [hd]
     have:d<a.tmps.size:=by rw [mid.size];exact hlt
     have e2:((a.put (some d) v).tmps).getD d undef=v:=by simp [Act.put,Array.getD,this]
     grind
    ·have hpm:=(hdn p hp).1;rw [hoth (hapart (hms _ hpm).1 (hpi p hp) (by grind))];exact g.rv (slot p hp d hd hlt)
  ·-- another
   obtain ⟨z,hz,hok'⟩:=hok i o hin him ho;have hfr:=mid.fr _ hdeps
   have next': ∀ι' v w',Good (Own F ιL) H ι w H ι' w'->RV (Own F ιL) H ι' w' z v->wpAny P .any ops Q (u+(ops.size-n)) (listed.setIfInBounds i true) (a.put o.dst v) w':=fun ι' v w' g r=>by
    have g2:=Good.front hιl gd.rel g rfl;refine next v w' ⟨rem,dn,L,hnd,hrm,fun m hm=> ?_,hdn,hlt,ι',ιL,g.rel.len,mid.put hap g hin hds hz r,gd.trans g2,fun p hp d hd hlt=> ?_⟩
    ·rw [getD_set_ne false (fun (e:i=m)=>him (e ▸ hm))];grind
    ·have hpm:=(hdn p hp).1;rw [hoth (hapart (hms _ hpm).1 (fun h=>him (h ▸ hpm)) (by grind))];exact g2.rv (slot p hp d hd hlt)
   have run:ZH P o (ZS (ops.toList.map (·.dst)) vals (ZQ i o) (Z5 ((ops.toList.map (·.dst)).take n) fr)) H (fun x H'=>x=z/\H'=H)->o.wp P a w (wpAny P .any ops Q (u+(ops.size-n)) (listed.setIfInBounds i true)) Q:=fun h =>
    Bh h mid.rel hfr fun x H' ι' v w' hk g r=>by
     grind
   split at hok'
   ·rename_i hg
    have hw:Region.wanted o (yielded ops a.tmps)=true:=by simp [Region.wanted,hg]
    grind
   ·rename_i j b hg;rcases hok' with ⟨c,hc,h1,h2⟩ | ⟨hc,hyt⟩
    rotate_left
    ·have hyl:=Wl hfr hc
     have hw: ¬(Region.wanted o (yielded ops a.tmps)=true):=by grind [Region.wanted]
     rw [if_neg hw];exact next' ι undef w (Good.refl mid.rel) (by grind [WE])
    have hyl:=Vv hfr hc
    by_cases hcb:c=b
    ·have hw:Region.wanted o (yielded ops a.tmps)=true:=by grind [Region.wanted]
     grind
    ·have hw: ¬(Region.wanted o (yielded ops a.tmps)=true):=by grind [Region.wanted]
     rw [if_neg hw];exact next' ι undef w (Good.refl mid.rel) (by grind [WE])
def L5 (l : List Oper) (n : Nat) (ms : List Nat) : Bool :=
  (ms.all fun m => decide (m < n) && decide (m < l.length) && ((Xb l m).guard.isNone && (U9 (Xb l m).op).all fun t => (List.range n).all fun j => match (l.map (·.dst))[j]? with
        | some (some d) => decide (d ≠ t) || (ZQ m (Xb l m)).contains j
        | _ => true)) && decide ms.Nodup
theorem XJ (ms:List Nat) {P:Program} {id:Nat} {l:List Oper} {fr:List V} {H:List Obj} {Q:Exit->List V->List Obj->Prop} {t} (n:Nat) (hm:P.follows .mixedOrders=true) (hB:Ve (List.toArray l) n=true) (hR:Ag (List.toArray (U8 ms l)) n=true) (hL:L5 l n ms=true) (hfl:fr.length<=1000000)
  (h:hs P (l.map (·.dst)) H (Zu (fun fr'=>KC P H l ms.length ms (LW fr') [] (Zu (fun fr2 L=>YS P (l.map (·.dst)) (l.drop n) fr2 (H++L) (Zu (Q .normal) ⟨⟩)) ⟨⟩)) ⟨⟩) ((U8 ms l).take n) (LW fr)) :
  AWP P (.region id (Zu (List.toArray l) t) true) fr H Q:=fun F ι a w hr hf=>by
 refine wp_region_any hm ?_;have hB':=hB;simp only [Ve,ZE,Zs] at hB';obtain ⟨⟨⟨⟨hn,_⟩,_⟩,hap⟩,_⟩:=hB'
 have hn2:n<=l.length:=Za
 simp only [L5,ZE,Zx,Zs] at hL;obtain ⟨hL1,hL3⟩:=hL;have hds:(U8 ms l).map (·.dst)=l.map (·.dst):=Gx ms l;have hh:=NQ (P:=P) (H:=H) (ops:=List.toArray (U8 ms l)) (n:=n) (fr:=fr) (K:=fun fr'=>KC P H l ms.length ms fr' [] (fun fr2 L=>YS P (l.map (·.dst)) (l.drop n) fr2 (H++L) (Q .normal))) (by grind [Gy]) (by grind) hR _ 0 [] (Kh _) rfl (by simp;rfl) (by simp_all [ZS,Zu,LW]);obtain ⟨ys,h1,⟨h2a,h2b⟩,h3⟩:=K0 _ 0 [] rfl hh;simp only [ZD,hds] at h2a h2b h3;have hlen:ys.length=n:=h2a
 have g0:=Good.drew hr;have hf0:=g0.fr hf;have hget: ∀k,k<n->((U8 ms l).take n)[k]? =(U8 ms l)[k]? :=fun k hk=>Km hk;have hjl:(Z5 ((l.map (·.dst)).take n) fr).length=fr.length:=YK _ _
 have hlat: ∀m∈ms,m<n/\l[m]? =some (Xb l m)/\(Xb l m).guard=none:=fun m hm=>by
  obtain ⟨⟨h4,h5⟩,h6,_⟩:=hL1 m hm;exact ⟨h4,by grind [CJ],by simpa using h6⟩
 have hvm: ∀m∈ms,ys[m]? =some .junk:=fun m hm=>by
  obtain ⟨q1,q2,q3⟩:=hlat m hm;obtain ⟨z,hy,hk⟩:=h3 m (Qy (Xb l m)) (by grind [Fk]);rw [Xt] at hy;have e1:(Qy (Xb l m)).guard=none:=q3;rw [e1] at hk;simp only [Qy,ZH,Zy,Yh,Wc,MP,Xc] at hk
  have hk2:gt (ZS (l.map (·.dst)) ys (ZQ (0+m) { Xb l m with op:= .move (.tmp 1000000) }) (Z5 ((l.map (·.dst)).take n) fr)) 1000000=z:=by grind [ev]
  grind [LS,Yy]
 have hfin:ZS (l.map (·.dst)) ys (List.range n) (Z5 ((l.map (·.dst)).take n) fr)=ZS (l.map (·.dst)) ys (List.range n) fr:=CD hap (by grind) hlen
 have:=Pg (Q:=fun e a' w'=> ∃fr' H' ι',Q e fr' H'/\Good F H ι w H' ι' w'/\Fr F H' ι' w' fr' a') (F:=F) (fr:=fr) (vals:=ys) (P:=P) (H:=H) (l:=l) (ms:=ms) (K:=fun fr2 L=>YS P (l.map (·.dst)) (l.drop n) fr2 (H++L) (Q .normal)) (ops:=List.toArray l) (ι0:=ι) (w0:= { w with drawn:=w.drawn+1 }) rfl hB hlen
  (fun m hm=>⟨(hlat m hm).1,by grind,(hlat m hm).2.2,hvm m hm⟩)
  (fun m hm t ht j hj hd=>by
   obtain ⟨_,_,h5⟩:=hL1 m hm;have h6:=h5 t ht j (Zz.2 hj);simp only at hd;rw [hd] at h6
   grind)
  (fun i o hi him ho=>by
   have:=h3 i o (by
    grind [C1])
   grind)
  (fun fr2 L ι1 a1 w1 k1 g1 f1=>Yg (P:=P) (ops:=List.toArray l) _ _ (H++L) _ k1 F ι1 a1 w1 g1.rel f1 fun fr' H' ι' a' w' k g f=>⟨fr',H',ι',k,g0.trans (g1.trans g),f⟩)
  n (Array.replicate l.length false) a { w with drawn:=w.drawn+1 }
  ⟨Zb,fun j oj _ hl=>(by grind [getD_replicate_false]),fun t _ ht=>getD_in (by grind) (getD_replicate_false _ _)⟩
  (by
   grind [List.filter_eq_self,getD_replicate_false])
  ⟨ms,[],[],hL3,fun m hm=>hm,fun m hm=>by grind [getD_replicate_false],fun p hp=>(by cases hp),by
    grind [Rx],ι,[],hr.len,by
   have g1:Rel F (H++ []) (ι++ []) { w with drawn:=w.drawn+1 } :=by simpa using g0.rel
   have r1:=g1.front hr.len hr.refH
   exact ⟨r1,hf0.1,hf0.2.1,fun t x ht _=>RV.narrow (L:= []) hr.len (by simpa using hf0.2.2 t x ht) (hf0.2.2 t x ht).refB,fun j d x _ hl=>by grind [getD_replicate_false]⟩,
   by simpa using Good.refl g0.rel,fun p hp=>(by cases hp)⟩
 grind [Zu]
theorem YN {P H l rem fr L K} (h:K fr L):KC P H l 0 rem fr L K:=h
theorem S6 {P H l n rem fr L K} (rs:List Nat) (hr:QB l rem=rs) (h: ∀m∈rs,∃y L',Zy P (Xb l m) fr (H++L) (fun x H'=>x=y/\H'=H++L')/\KC P H l n (rem.erase m) (UQ fr (Xb l m).dst y) L' K):KC P H l (n+1) rem fr L K:=fun m hm=>h m (hr ▸ hm)
theorem Z0 {P H l n rem fr L K} (m:Nat) (y:V) (L':List Obj) (hr:QB l rem= [m]) (h:Zy P (Xb l m) fr (H++L) (fun x H'=>x=y/\H'=H++L')) (k:KC P H l n (rem.erase m) (UQ fr (Xb l m).dst y) L' K):KC P H l (n+1) rem fr L K :=
 S6 [m] hr fun m' hm'=>by
  grind
theorem Io {P H l n rem fr L K} (m m2:Nat) (y:V) (L':List Obj) (y2:V) (L2:List Obj) (hr:QB l rem= [m,m2]) (h:Zy P (Xb l m) fr (H++L) (fun x H'=>x=y/\H'=H++L')) (h2:Zy P (Xb l m2) fr (H++L) (fun x H'=>x=y2/\H'=H++L2))
  (k:KC P H l n (rem.erase m) (UQ fr (Xb l m).dst y) L' K) (k2:KC P H l n (rem.erase m2) (UQ fr (Xb l m2).dst y2) L2 K):KC P H l (n+1) rem fr L K :=
 S6 [m,m2] hr fun m' hm'=>by
  grind
def CC : Op->Bool
 | .move _=>true
 | .assign _=>true
 | .binOp _ _ _ _ _=>true
 | .unOp _ _ _=>true
 | .pick _ _ _=>true
 | _=>false
theorem Br {P:Program} {o:Oper} (h:CC o.op=true) {fr:List V} {H H2:List Obj} {y:V} (k:ZH P o fr H (fun x H'=>x=y/\H'=H)):ZH P o fr H2 (fun x H'=>x=y/\H'=H2):=by
 have key: ∀(f:List Obj->Option V),(∀A B,f A=f B)->(match (match f H with | some x=>some (x,H) | none=>(none:Option (V×List Obj))) with | some (x,H')=>x=y/\H'=H | none=>False)->(match (match f H2 with | some x=>some (x,H2) | none=>(none:Option (V×List Obj))) with | some (x,H')=>x=y/\H'=H2 | none=>False):=fun f hf hk=>by
  rw [hf H2 H]
  cases hfh:f H with
  | none=>grind
  | some x=>grind
 unfold ZH Zy at k ⊢
 cases hop:o.op with
 | move x=>rw [hop] at k;simp only [Wc,MP,Xc,Yh] at k ⊢;omega
 | assign x=>rw [hop] at k;simp only [Wc,MP,Xc,Yh] at k ⊢;omega
 | binOp a b c d e =>
  grind [Wc,MP,Xc,Yh,Vd]
 | unOp a b c =>
  grind [Wc,MP,Xc,Yh,Vd]
 | pick c x z =>
  grind [Wc,MP,Xc,Yh,Vd]
 | _=>rw [hop] at h;cases h
theorem NO {P:Program} {ds:List (Option Nat)} {fr vals:List V} {H H2:List Obj} {i:Nat} {o:Oper} (h:CC o.op=true) (k:FE P ds fr H vals i o):FE P ds fr H2 vals i o:=by
 obtain ⟨y,h1,h2⟩:=k;refine ⟨y,h1,?_⟩
 split at h2
 ·exact Br h h2
 ·rcases h2 with ⟨c,q1,q2,q3⟩ | q
  ·exact .inl ⟨c,q1,fun e=>Br h (q2 e),q3⟩
  grind
def Hf (l:List Oper):Nat->Nat->Nat->Bool
 | 0,_,_=>false
 | f+1,i,m=>(ZQ m (Xb l m)).any fun j=>decide (j=i)||Hf l f i j
theorem By {l:List Oper} {ops:Array Oper} (hol:ops.toList=l) {n:Nat} {listed:Array Bool} (inv:HeadInv .any ops n listed): ∀(f i m:Nat),m<l.length->Hf l f i m=true->(∀j∈ZQ m (Xb l m),listed.getD j false=true)->listed.getD i false=true
 | 0,_,_,_,h,_=>by cases h
 | f+1,i,m,hm,h,hd=>by
  rw [Hf,Wx] at h;obtain ⟨j,hj,h⟩:=h;rw [W8] at h;rcases h with h | h
  ·grind
  ·have hjm:j<m:=Ws j hj
   have hjl:j<l.length:=Za
   refine By hol inv f i j hjl h fun k hk=> ?_
   have ho:ops[j]? =some (Xb l j):=by
    grind [CJ]
   simp [ZQ] at hk;obtain ⟨e,⟨he,hb,_⟩,rfl⟩:=hk;exact inv.closed j _ ho (hd j hj) e he hb
theorem Co (n:Nat) {P:Program} {id:Nat} {l:List Oper} {fr:List V} {H:List Obj} {Q:Exit->List V->List Obj->Prop}
  (h:YS P (l.map (·.dst)) (l.take n) fr H fun fr' H'=> ∃fr2 H2,Weak H.length fr' H' fr2 H2/\YS P (l.map (·.dst)) (l.drop n) fr2 H2 (Q .normal)):AWP P (.region id (List.toArray l) false) fr H Q:=by
 intro F ι a w hr hf;refine wp_region_list ?_;have key:=VB (P:=P) (ops:=List.toArray l) (Q:=fun e a' w'=> ∃fr' H' ι',Q e fr' H'/\Good F H ι w H' ι' w'/\Fr F H' ι' w' fr' a') (r:=l.drop n) (l.take n) fr H _ (by simpa using h) F ι a w hr hf ?_
 ·simp_all
 ·rintro fr' H' ι' a' w' ⟨fr2,H2,hw,hk⟩ g f;obtain ⟨ι2,r2,f2,g2⟩:=hw F ι' a' w' g.rel f;exact Yg (P:=P) (ops:=List.toArray l) _ _ H2 _ Za F ι2 _ w' r2 f2 fun fr3 H3 ι3 a3 w3 k3 g3 f3=>⟨fr3,H3,ι3,k3,(g2 H ι w (Zw _) g).trans g3,f3⟩
def S4 (ko:List Nat) (x:V):Prop:= ∃o∈ko,(∃off,x= .ptr o off)\/ ∃off n,x= .sl o off n n
theorem Uc {ko:List Nat} {o off} (h:o∈ko):S4 ko (.ptr o off):=⟨o,h,.inl ⟨off,rfl⟩⟩
def zF (ds:List (Option Nat)) (frj vals:List V) (ko:List Nat) (i:Nat) (o:Oper):Prop:=o.guard=none/\ ∃p,((∃u,o.op= .load u (.tmp p))\/(∃s f,o.op= .fieldAddr s (.tmp p) f)\/(∃t q,o.op= .indexAddr t (.tmp p) q)\/o.op= .nilCheck (.tmp p))/\S4 ko (gt (ZS ds vals (ZQ i o) frj) p)
theorem uQ {P:Program} {ds:List (Option Nat)} {fr vals:List V} {H L:List Obj} {ko:List Nat} {i:Nat} {o:Oper} (hk:zF ds fr vals ko i o) (h: ∀k∈ko,oat L k=oat H k) (k:FE P ds fr H vals i o):FE P ds fr L vals i o:=by
 obtain ⟨hg,p,hop,o1,ho1,hp⟩:=hk;replace h:=h o1 ho1;obtain ⟨y,h1,h2⟩:=k;refine ⟨y,h1,?_⟩;rw [hg] at h2 ⊢;simp only at h2 ⊢;unfold ZH Zy at h2 ⊢;generalize hX:gt (ZS ds vals (ZQ i o) fr) p=X at hp;rcases hop with ⟨u,hop⟩ | ⟨s,f,hop⟩ | ⟨t,q,hop⟩ | hop
 ·have hl:Jx P L u X=Jx P H u X:=by
   rcases hp with ⟨off,rfl⟩ | ⟨off,n,rfl⟩
   ·grind [Jx,UG]
   ·rfl
  rw [hop] at h2 ⊢;simp only [Wc,MP,Xc,Yh,ev,hX,hl] at h2 ⊢
  cases hl:Jx P H u X with
  | none=>grind [Vd]
  | some z=>grind
 ·have hal:WB L X=WB H X:=by
   rcases hp with ⟨off,rfl⟩ | ⟨off,n,rfl⟩
   ·show (match oat L o1 with | .cells _=>true | _=>false)=(match oat H o1 with | .cells _=>true | _=>false);rw [h]
   ·rfl
  have ha:JW P L s f X=JW P H s f X:=by grind [JW]
  rw [hop] at h2 ⊢;simp only [Wc,MP,Xc,Yh,ev,hX,ha] at h2 ⊢
  cases hl:JW P H s f X with
  | none=>grind [Vd]
  | some z=>grind
 ·obtain ⟨I,hI⟩: ∃I,I=ev (ZS ds vals (ZQ i o) fr) q:=⟨_,rfl⟩
  have ha:Q9 P L t X I=Q9 P H t X I:=by
   have hal:WB L X=WB H X:=by
    rcases hp with ⟨off,rfl⟩ | ⟨off,n,rfl⟩
    ·show (match oat L o1 with | .cells _=>true | _=>false)=(match oat H o1 with | .cells _=>true | _=>false);rw [h]
    ·rfl
   rcases hp with ⟨off,rfl⟩ | ⟨off,n,rfl⟩
   ·unfold Q9;rw [hal]
   simp_all [Q9]
  rw [hop] at h2 ⊢;have hx:evx (ZS ds vals (ZQ i o) fr) (.tmp p)=X:=hX;simp only [Wc,MP,Xc,Yh,hx,<- hI,ha] at h2 ⊢
  cases hz:Q9 P H t X I with
  | none=>grind [Vd]
  | some z=>grind
 ·have hal:WB L X=WB H X:=by
   rcases hp with ⟨off,rfl⟩ | ⟨off,n,rfl⟩
   ·show (match oat L o1 with | .cells _=>true | _=>false)=(match oat H o1 with | .cells _=>true | _=>false);rw [h]
   ·rfl
  grind [Wc,MP,Xc,Yh,ev,WB,mC,Vd]
def OpX (P:Program) (o:Oper) (fr:List V) (H:List Obj) (B:V->List Obj->Prop):Prop :=
 ∀F ι a w,Rel F H ι w->Fr F H ι w fr a-> ∃y H' nx v ι' w',B y H'/\(execOp a.eval o).run P w= .ok nx w'/\(nx= .value v\/(nx= .skip/\v=undef))/\Good F H ι w H' ι' w'/\RV F H' ι' w' y v
def stX (P:Program) (o:Oper) (fr:List V) (H:List Obj) (R:V->List Obj->Prop):Prop:=Zy P o fr H R\/ ∀f2,QL (U9 o.op) fr f2->OpX P o f2 H R
theorem eX {P:Program} {o:Oper} {f1 f2:List V} {H:List Obj} {R:V->List Obj->Prop} (h:QL (U9 o.op) f1 f2) (k:stX P o f2 H R):stX P o f1 H R :=
 k.imp (KQ h).2 fun k f3 h3=>k f3 fun t ht=>(h t ht).symm.trans (h3 t ht)
theorem ZeK {P:Program} {o:Oper} {fr:List V} {H:List Obj} {K:V->List Obj->Prop} (h:stX P o fr H K) {F ι a w} (hr:Rel F H ι w) (hf:Fr F H ι w fr a) {next:Act->World->Prop} {Q:Exit->Act->World->Prop}
  (hn: ∀x H' ι' v w',K x H'->Good F H ι w H' ι' w'->RV F H' ι' w' x v->next (a.put o.dst v) w'):o.wp P a w next Q:=by
 rcases h with h | h
 ·grind [QH]
 ·obtain ⟨x,H',nx,v,ι',w',k,e,e2,g,r⟩:=h fr (fun _ _=>rfl) F ι a w hr hf;unfold Oper.wp;rw [e];rcases e2 with rfl | ⟨rfl,rfl⟩
  ·exact hn x H' ι' v w' k g r
  ·exact hn x H' ι' undef w' k g r
def CI (P:Program) (ko:List Nat) (l:List Oper):Nat->List Nat->List V->List Obj->(List V->List Obj->Prop)->Prop
 | 0,_,fr,H,K=>K fr H
 | n+1,rem,fr,H,K=> ∀m∈QB l rem,∃R:V->List Obj->Prop,stX P (Xb l m) fr H R/\ ∀y H',R y H'->(∀k∈ko,oat H' k=oat H k)/\CI P ko l n (rem.erase m) (UQ fr (Xb l m).dst y) H' K
def ZhI (P:Program) (ko:List Nat) (F:Nat->Prop) (H:List Obj) (l:List Oper) (ms:List Nat) (bs:List V) (K:List V->List Obj->Prop) (ds:List (Option Nat)) (fr vals:List V) (n:Nat) (ι0:List (Option Nat)) (w0:World) (listed:Array Bool) (a:Act) (w:World):Prop :=
 ∃(rem:List Nat) (dn:List (Nat×V)) (L:List Obj),(((∀m∈ms,m∈rem)->L=H)/\(∀k∈ko,oat L k=oat H k))/\rem.Nodup/\(∀m∈rem,m∈ms)/\(∀m∈ms,listed.getD m false=decide (m ∉ rem))/\(∀p∈dn,p.1∈ms/\p.1 ∉ rem)/\CI P ko l rem.length rem (Rx l dn bs) L K /\
  ∃ι,Mid F L ds fr vals n listed ι a w/\Good F H ι0 w0 L ι w /\
   ∀p∈dn,∀d,(Xb l p.1).dst=some d->d<fr.length->RV F L ι w p.2 (a.tmps.getD d undef)
theorem Pe {P:Program} {ko:List Nat} {ops:Array Oper} {Q:Exit->Act->World->Prop} {F H fr vals} {n:Nat} {l:List Oper} {ms:List Nat} {K:List V->List Obj->Prop} (hol:ops.toList=l) (hB:Ve ops n=true) (hvl:vals.length=n)
  (hms: ∀m∈ms,m<n/\ops[m]? =some (Xb l m)/\(Xb l m).guard=none/\vals[m]? =some .junk)
  (hrd: ∀m∈ms,∀t∈U9 (Xb l m).op,∀j,j<n->(ops.toList.map (·.dst))[j]? =some (some t)->j∈ZQ m (Xb l m))
  (hev: ∀i,i<n->i ∉ ms->(CC (Xb l i).op=true\/ ∀m∈ms,Hf l n i m=true)\/zF (ops.toList.map (·.dst)) (Z5 ((ops.toList.map (·.dst)).take n) fr) vals ko i (Xb l i))
  (hok: ∀(i:Nat) (o:Oper),i<n->i ∉ ms->ops[i]? =some o->FE P (ops.toList.map (·.dst)) (Z5 ((ops.toList.map (·.dst)).take n) fr) H vals i o) {ι0 w0}
  (ht: ∀fr' L ι a w,K fr' L->Good F H ι0 w0 L ι w->Fr F L ι w fr' a->wpList P ops Q (ops.toList.drop n) a w) :
  ∀(u:Nat) (listed:Array Bool) (a:Act) (w:World),HeadInv .any ops n listed->((List.range n).filter fun i=> !listed.getD i false).length=u ->
   ZhI P ko F H l ms (ZS (ops.toList.map (·.dst)) vals (List.range n) (Z5 ((ops.toList.map (·.dst)).take n) fr)) K (ops.toList.map (·.dst)) fr vals n ι0 w0 listed a w->wpAny P .any ops Q (u+(ops.size-n)) listed a w:=by
 simp only [Ve,ZE,Zs,W8] at hB;obtain ⟨⟨⟨⟨hn,hsc⟩,hea⟩,hap⟩,hseq⟩:=hB
 have hdl:n<=(ops.toList.map (·.dst)).length:=by grind
 -- the frame at late operations done, azs far azs is listed
 have frAt: ∀ {dn:List (Nat×V)} {L:List Obj} {listed:Array Bool} {ι:List (Option Nat)} {a:Act} {w:World} (ls:List Nat),(∀j∈ls,j<n/\listed.getD j false=true)->Mid F L (ops.toList.map (·.dst)) fr vals n listed ι a w ->
   (∀p∈dn,∀d,(Xb l p.1).dst=some d->d<fr.length->RV F L ι w p.2 (a.tmps.getD d undef)) ->
   Fr F L ι w (Rx l dn (ZS (ops.toList.map (·.dst)) vals ls (Z5 ((ops.toList.map (·.dst)).take n) fr))) a:=fun {dn L listed ι a w} ls hls mid slot=>by
  obtain ⟨f1,f2,f3⟩:=mid.fr ls hls;refine ⟨by rw [De];exact f1,f2,fun t x hx=> ?_⟩;rcases Ml l dn _ hx with ⟨p,h1,h2,rfl,h4⟩ | h1
  ·grind [Yy,YK]
  grind
 intro u
 induction u with
 | zero =>
  intro listed a w inv hm mid
  have hall: ∀i,i<n->listed.getD i false=true:=fun i hi=>by
   have h0:=YG hm
   have:i ∉ (List.range n).filter fun i=> !listed.getD i false:=by rw [h0];simp
   grind
  have hl:listed=Array.replicate n true++Array.replicate (ops.size-n) false:=by
   refine Array.ext (by simp [inv.size];omega) fun i h1 h2=> ?_
   by_cases hi:i<n
   ·have:=hall i hi;rw [Array.getElem_append_left (by grind)];simp [h1] at this;simp [this]
   ·have:=inv.tail i Za (by grind);rw [Array.getElem_append_right (by simp;omega)];simp [h1] at this;simp [this]
  obtain ⟨rem,dn,L,⟨hLH,hko⟩,hnd,hrm,hst,hdn,hlt,ι,mid,gd,slot⟩:=mid
  have hs:rem= []:=by
   cases rem with
   | nil=>rfl
   | cons m r =>
    have h1:=hst m (hrm m Zb)
    grind
  subst hs;have hw:=ht _ L ι a w hlt gd (frAt (List.range n) (fun j hj=>⟨Zz.1 hj,hall j (Zz.1 hj)⟩) mid slot);have:=wpAny_of_seq (md:= .any) (Q':=Q) (ops.toList.drop n) n listed a w (fun j=>Zb) (by grind) hw
  grind
 | succ u ih =>
  intro listed a w inv hm mid
  have hun: ∃i,i<n/\listed.getD i false=false:=by
   cases hf:(List.range n).filter fun i=> !listed.getD i false with
   | nil=>grind
   | cons i l =>
    have:i∈(List.range n).filter fun i=> !listed.getD i false:=by rw [hf];simp
    grind
  have hsz: ∀ {i},i<n->i<listed.size:=fun h=>by rw [inv.size];omega
  have hready:Region.ready .any ops listed≠ []:=by
   obtain ⟨i,hi,hu⟩:=hun
   have: ∃i,i<n/\listed.getD i false=false/\ ∀j,j<i->listed.getD j false=true:=by
    induction i using Nat.strongRecOn with
    | _ i ihh =>
     by_cases hex: ∃j,j<i/\listed.getD j false=false
     ·obtain ⟨j,hj,hju⟩:=hex;exact ihh j hj Za hju
     grind
   obtain ⟨i,hi,hu,hmin⟩:=this;intro h0
   have:i∈Region.ready .any ops listed:=by
    have hlt:i<ops.size:=Za
    refine mem_ready.2 ⟨getD_in (hsz hi) hu,ops[i],by simp [hlt],fun e he hb=> ?_⟩;have h1:=Zx.1 hea i (Zz.2 hi)
    grind [E7]
   grind
  rw [show u+1+(ops.size-n)=(u+(ops.size-n))+1 by omega];refine ⟨fun h0=>absurd h0 hready,fun i hi=> ?_⟩
  have hin:i<n:=by
   rcases hsc with h | ⟨hs,hc⟩
   ·obtain ⟨_,o,ho,_⟩:=mem_ready.1 hi
    grind
   ·rcases WM i n with h | h
    ·exact h
    ·obtain ⟨k,hk,hu⟩:=hun
     by_cases hne:n<ops.size
     ·exact absurd hi (tail_waits hs hc hne inv _ k rfl hk (getD_in (hsz hk) hu) i h)
     ·obtain ⟨_,o,ho,_⟩:=mem_ready.1 hi
      grind
  obtain ⟨hiu,o,ho,hall⟩:=mem_ready.1 hi
  have hds:(ops.toList.map (·.dst))[i]? =some o.dst:=by simp [ho]
  have hdeps: ∀j∈ZQ i o,j<n/\listed.getD j false=true:=fun j hj=>by
   refine ⟨by have:=Ws j hj;omega,?_⟩;simp [ZQ] at hj
   grind
  have hcount:((List.range n).filter fun k=> !(listed.setIfInBounds i true).getD k false).length=u:=by
   have e:((List.range n).filter fun k=> !(listed.setIfInBounds i true).getD k false)=((List.range n).filter fun k=> !listed.getD k false).filter (fun k=>k≠i):=by
    rw [List.filter_filter];refine QR fun k hk=> ?_
    by_cases hki:k=i
    ·subst hki;simp [hsz hin]
    ·rw [getD_set_ne false (fun h=>hki h.symm)];simp [hki]
   rw [e]
   have hmem:i∈(List.range n).filter fun k=> !listed.getD k false:=by
    grind
   have hnd:((List.range n).filter fun k=> !listed.getD k false).Nodup:=List.nodup_range.filter _;have:=Fa hnd i
   grind
  have next: ∀v w',ZhI P ko F H l ms (ZS (ops.toList.map (·.dst)) vals (List.range n) (Z5 ((ops.toList.map (·.dst)).take n) fr)) K (ops.toList.map (·.dst)) fr vals n ι0 w0 (listed.setIfInBounds i true) (a.put o.dst v) w'->wpAny P .any ops Q (u+(ops.size-n)) (listed.setIfInBounds i true) (a.put o.dst v) w':=fun v w' h =>
   ih _ _ w' (inv.set hi hin) hcount h
  have hiu2:listed.getD i false=false:=getD_both hiu;obtain ⟨rem,dn,L,⟨hLH,hko⟩,hnd,hrm,hst,hdn,hlt,ι,mid,gd,slot⟩:=mid
  -- a slot that this operation does not write
  have hoth: ∀ {e:Nat} {v:Value},o.dst≠some e->((a.put o.dst v).tmps).getD e undef=a.tmps.getD e undef:=fun {e v} hne=>by
   cases hdst:o.dst with
   | none=>rfl
   | some d =>
    have hne2:d≠e:=fun h=>hne (by rw [hdst,h]);simp [Act.put,XK,DS hne2]
  have hapart: ∀ {j e:Nat},j<n->j≠i->(ops.toList.map (·.dst))[j]? =some (some e)->o.dst≠some e:=fun {j e} hj hji hd h=>by
   have:=Zx.1 (Zx.1 hap i (Zz.2 hin)) j (Zz.2 hj)
   grind
  have hdm: ∀m∈ms,(ops.toList.map (·.dst))[m]? =some (Xb l m).dst:=fun m hm=>by
   grind
  unfold wpOp;simp only [ho]
  by_cases him:i∈ms
  ·-- a late one
   obtain ⟨_,hom,hgm,hvm⟩:=hms i him;rw [hom] at ho;simp at ho;subst ho
   have hir:i∈rem:=by
    grind
   have hrl:i∈QB l rem:=by
    rw [QB,QX]
    grind
   obtain ⟨k,hk⟩: ∃k,rem.length=k+1:=⟨rem.length-1,by grind⟩;rw [hk] at hlt;obtain ⟨R,hstep,hltR⟩:=hlt i hrl
   let ls:=(List.range n).filter fun j=>listed.getD j false
   have hls: ∀j∈ls,j<n/\listed.getD j false=true:=fun j hj=>by grind
   have hfr:=frAt (dn:=dn) (L:=L) ls hls mid slot
   have hag:QL (U9 (Xb l i).op) (ZS (ops.toList.map (·.dst)) vals ls (Z5 ((ops.toList.map (·.dst)).take n) fr)) (ZS (ops.toList.map (·.dst)) vals (List.range n) (Z5 ((ops.toList.map (·.dst)).take n) fr)) :=
    BE hap hdl hvl (fun j hj=>(hls j hj).1) fun t ht j hj hd=>by
     have:=hdeps j (hrd i him t ht j hj hd);simpa [ls] using this
   have hl:=eX (D5 l (by simp [Yy]) hag dn) hstep
   have hw:Region.wanted (Xb l i) (yielded ops a.tmps)=true:=by simp [Region.wanted,hgm]
   rw [if_pos hw];refine .inl (ZeK hl gd.rel hfr fun x H' ι' v w' hk g r=> ?_);obtain ⟨hko',hlt'⟩:=hltR x H' hk;have trans: ∀ {x:V} {v:Value},RV F L ι w x v->RV F H' ι' w' x v:=fun {x v} h=>g.rv h
   have ZS: ∀m∈ms,(listed.setIfInBounds i true).getD m false=decide (m ∉ rem.erase i):=fun m hm=>by
    by_cases e:m=i
    ·subst e;simp [hsz hin,hnd.not_mem_erase]
    ·rw [getD_set_ne false (fun h=>e h.symm),hst m hm]
     grind
   have hpi: ∀p∈dn,p.1≠i:=fun p hp e=>(hdn p hp).2 (e ▸ hir);refine next v w' ⟨rem.erase i,(i,x)::dn,H',⟨fun hall=>absurd (hall i him) hnd.not_mem_erase,fun k hk=>(hko' k hk).trans (hko k hk)⟩,hnd.erase i,fun m hm=>hrm m (List.mem_of_mem_erase hm),ZS,fun p hp=> ?_,?_,ι',⟨g.rel,?_,?_,fun t z ht' hnt=> ?_,fun j e z hj hlj hd hz hlt=> ?_⟩,gd.trans g,fun p hp d hd hlt=> ?_⟩
   ·rcases Z4.1 hp with rfl | hp
    ·grind
    ·exact ⟨(hdn p hp).1,fun h=>(hdn p hp).2 (List.mem_of_mem_erase h)⟩
   ·have:(rem.erase i).length=k:=by grind
    rw [this];exact hlt'
   ·cases (Xb l i).dst<;>simp [Act.put,mid.size]
   ·cases (Xb l i).dst<;>exact mid.defers
   ·rw [hoth (fun e=>hnt (by
     rw [Xf]
     exact ⟨i,by grind⟩))]
    exact trans (mid.old t z ht' hnt)
   ·by_cases hij:j=i
    ·subst hij;rw [hvm] at hz;simp at hz;subst hz;exact .junk _
    ·have hl':listed.getD j false=true:=by rwa [getD_set_ne false (fun h=>hij h.symm)] at hlj
     rw [hoth (hapart hj hij hd)];exact trans (mid.new j e z hj hl' hd hz hlt)
   ·rcases Z4.1 hp with rfl | hp
    ·simp only at hd;rw [hd]
     have:d<a.tmps.size:=by rw [mid.size];exact hlt
     have e2:((a.put (some d) v).tmps).getD d undef=v:=by simp [Act.put,Array.getD,this]
     grind
    ·have hpm:=(hdn p hp).1;rw [hoth (hapart (hms _ hpm).1 (hpi p hp) (by grind))];exact g.rv (slot p hp d hd hlt)
  ·-- another
   have hil:i<l.length:=by grind
   have hlo:Xb l i=o:=by
    have e:ops[i]? =some (Xb l i):=by
     rw [<- CQ,hol,CJ,Ki,Kl hil];rfl
    grind
   have hokL:FE P (ops.toList.map (·.dst)) (Z5 ((ops.toList.map (·.dst)).take n) fr) L vals i o:=by
    by_cases hall: ∀m∈ms,m∈rem
    ·rw [hLH hall];grind
    ·rcases (hev i hin him).symm with h | h
     ·exact uQ (by grind) hko (hok i o hin him ho)
     rcases h with h | h
     ·exact NO (by grind) (hok i o hin him ho)
     ·exfalso;refine hall fun m hm=>Kj fun hnr=> ?_;have h1:=hst m hm;rw [Vr hnr] at h1
      have hml:m<l.length:=by grind
      have:=By hol inv n i m hml (h m hm) fun j hj=>by
       simp [ZQ] at hj;obtain ⟨e,⟨he,hb,_⟩,rfl⟩:=hj;exact inv.closed m _ (hms m hm).2.1 h1 e he hb
      grind
   obtain ⟨z,hz,hok'⟩:=hokL;have hfr:=mid.fr _ hdeps
   have next': ∀ι' v w',Good F L ι w L ι' w'->RV F L ι' w' z v->wpAny P .any ops Q (u+(ops.size-n)) (listed.setIfInBounds i true) (a.put o.dst v) w':=fun ι' v w' g r=>by
    refine next v w' ⟨rem,dn,L,⟨hLH,hko⟩,hnd,hrm,fun m hm=> ?_,hdn,hlt,ι',mid.put hap g hin hds hz r,gd.trans g,fun p hp d hd hlt=> ?_⟩
    ·rw [getD_set_ne false (fun (e:i=m)=>him (e ▸ hm))];grind
    ·have hpm:=(hdn p hp).1;rw [hoth (hapart (hms _ hpm).1 (fun h=>him (h ▸ hpm)) (by grind))];exact g.rv (slot p hp d hd hlt)
   have run:ZH P o (ZS (ops.toList.map (·.dst)) vals (ZQ i o) (Z5 ((ops.toList.map (·.dst)).take n) fr)) L (fun x H'=>x=z/\H'=L)->o.wp P a w (wpAny P .any ops Q (u+(ops.size-n)) (listed.setIfInBounds i true)) Q:=fun h =>
    Bh h mid.rel hfr fun x H' ι' v w' hk g r=>by
     grind
   split at hok'
   ·rename_i hg
    have hw:Region.wanted o (yielded ops a.tmps)=true:=by simp [Region.wanted,hg]
    grind
   ·rename_i j b hg;rcases hok' with ⟨c,hc,h1,h2⟩ | ⟨hc,hyt⟩
    rotate_left
    ·have hyl:=Wl hfr hc
     have hw: ¬(Region.wanted o (yielded ops a.tmps)=true):=by grind [Region.wanted]
     rw [if_neg hw];exact next' ι undef w (Good.refl mid.rel) (by grind [WE])
    have hyl:=Vv hfr hc
    by_cases hcb:c=b
    ·have hw:Region.wanted o (yielded ops a.tmps)=true:=by grind [Region.wanted]
     grind
    ·have hw: ¬(Region.wanted o (yielded ops a.tmps)=true):=by grind [Region.wanted]
     rw [if_neg hw];exact next' ι undef w (Good.refl mid.rel) (by grind [WE])
def ldP (o:Oper):Option Nat:=match o.op with | .load _ (.tmp p)=>if o.guard.isNone=true then some p else none | .fieldAddr _ (.tmp p) _=>if o.guard.isNone=true then some p else none | .indexAddr _ (.tmp p) _=>if o.guard.isNone=true then some p else none | .nilCheck (.tmp p)=>if o.guard.isNone=true then some p else none | _=>none
def evC (l:List Oper) (n:Nat) (ms ks:List Nat):Bool:=(List.range n).all fun i=>ms.contains i||CC (Xb l i).op||(ms.all fun m=>Hf l n i m)||(ks.contains i&&match ldP (Xb l i) with
 | some p=>(List.range n).all fun j=>match (l.map (·.dst))[j]? with | some (some d)=>decide (d≠p)||(ZQ i (Xb l i)).contains j | _=>true
 | none=>false)
theorem BD (ms ks ko:List Nat) {P:Program} {id:Nat} {l:List Oper} {fr:List V} {H:List Obj} {Q:Exit->List V->List Obj->Prop} {t} (n:Nat) (hm:P.follows .mixedOrders=true) (hB:Ve (List.toArray l) n=true) (hR:Ag (List.toArray (U8 ms l)) n=true) (hL:L5 l n ms=true) (hE:evC l n ms ks=true) (hfl:fr.length<=1000000)
  (h:hs P (l.map (·.dst)) H (Zu (fun fr'=>(∀k∈ks,∀p,ldP (Xb l k)=some p->S4 ko (gt (LW fr') p))/\CI P ko l ms.length ms (LW fr') H (Zu (fun fr2 L=>YS P (l.map (·.dst)) (l.drop n) fr2 L (Zu (Q .normal) ⟨⟩)) ⟨⟩)) ⟨⟩) ((U8 ms l).take n) (LW fr)) :
  AWP P (.region id (Zu (List.toArray l) t) true) fr H Q:=fun F ι a w hr hf=>by
 refine wp_region_any hm ?_;have hB':=hB;simp only [Ve,ZE,Zs] at hB';obtain ⟨⟨⟨⟨hn,_⟩,_⟩,hap⟩,_⟩:=hB'
 have hn2:n<=l.length:=Za
 simp only [L5,ZE,Zx,Zs] at hL;obtain ⟨hL1,hL3⟩:=hL;have hds:(U8 ms l).map (·.dst)=l.map (·.dst):=Gx ms l;have hh:=NQ (P:=P) (H:=H) (ops:=List.toArray (U8 ms l)) (n:=n) (fr:=fr) (K:=fun fr'=>(∀k∈ks,∀p,ldP (Xb l k)=some p->S4 ko (gt fr' p))/\CI P ko l ms.length ms fr' H (fun fr2 L=>YS P (l.map (·.dst)) (l.drop n) fr2 L (Q .normal))) (by grind [Gy]) (by grind) hR _ 0 [] (Kh _) rfl (by simp;rfl) (by simp_all [ZS,Zu,LW]);obtain ⟨ys,h1,⟨h2a,h2b⟩,h3⟩:=K0 _ 0 [] rfl hh
 simp only [ZD,hds] at h2a h2b h3;have hlen:ys.length=n:=h2a;have g0:=Good.drew hr;have hf0:=g0.fr hf;have hget: ∀k,k<n->((U8 ms l).take n)[k]? =(U8 ms l)[k]? :=fun k hk=>Km hk;have hjl:(Z5 ((l.map (·.dst)).take n) fr).length=fr.length:=YK _ _
 have hlat: ∀m∈ms,m<n/\l[m]? =some (Xb l m)/\(Xb l m).guard=none:=fun m hm=>by
  obtain ⟨⟨h4,h5⟩,h6,_⟩:=hL1 m hm;exact ⟨h4,by grind [CJ],by simpa using h6⟩
 have hvm: ∀m∈ms,ys[m]? =some .junk:=fun m hm=>by
  obtain ⟨q1,q2,q3⟩:=hlat m hm;obtain ⟨z,hy,hk⟩:=h3 m (Qy (Xb l m)) (by grind [Fk]);rw [Xt] at hy;have e1:(Qy (Xb l m)).guard=none:=q3;rw [e1] at hk;simp only [Qy,ZH,Zy,Yh,Wc,MP,Xc] at hk
  have hk2:gt (ZS (l.map (·.dst)) ys (ZQ (0+m) { Xb l m with op:= .move (.tmp 1000000) }) (Z5 ((l.map (·.dst)).take n) fr)) 1000000=z:=by grind [ev]
  grind [LS,Yy]
 have hfin:ZS (l.map (·.dst)) ys (List.range n) (Z5 ((l.map (·.dst)).take n) fr)=ZS (l.map (·.dst)) ys (List.range n) fr:=CD hap (by grind) hlen
 have:=Pe (ko:=ko) (Q:=fun e a' w'=> ∃fr' H' ι',Q e fr' H'/\Good F H ι w H' ι' w'/\Fr F H' ι' w' fr' a') (F:=F) (fr:=fr) (vals:=ys) (P:=P) (H:=H) (l:=l) (ms:=ms) (K:=fun fr2 L=>YS P (l.map (·.dst)) (l.drop n) fr2 L (Q .normal)) (ops:=List.toArray l) (ι0:=ι) (w0:= { w with drawn:=w.drawn+1 }) rfl hB hlen
  (fun m hm=>⟨(hlat m hm).1,by grind,(hlat m hm).2.2,hvm m hm⟩)
  (fun m hm t ht j hj hd=>by
   obtain ⟨_,_,h5⟩:=hL1 m hm;have h6:=h5 t ht j (Zz.2 hj);simp only at hd;rw [hd] at h6
   grind)
  (fun i hi him=>by
   have:=Zx.1 hE i (Zz.2 hi);rw [W8,W8,W8] at this;rcases this with h | h
   ·grind
   ·right
    rw [ZE] at h;obtain ⟨hk,h⟩:=h
    split at h
    rotate_left
    ·cases h
    rename_i p hp;have ho:=h2b.1 i (by grind) p hp
    have hgo:(Xb l i).guard=none/\((∃u,(Xb l i).op= .load u (.tmp p))\/(∃s f,(Xb l i).op= .fieldAddr s (.tmp p) f)\/(∃t q,(Xb l i).op= .indexAddr t (.tmp p) q)\/(Xb l i).op= .nilCheck (.tmp p)):=by
     unfold ldP at hp
     split at hp
     ·rename_i u q hop
      split at hp
      ·rename_i hg;simp at hp;subst hp;exact ⟨by simpa using hg,.inl ⟨u,hop⟩⟩
      ·cases hp
     ·rename_i u q f hop
      split at hp
      ·rename_i hg;simp at hp;subst hp;exact ⟨by simpa using hg,.inr (.inl ⟨u,f,hop⟩)⟩
      ·cases hp
     ·rename_i u q f hop
      split at hp
      ·rename_i hg;simp at hp;subst hp;exact ⟨by simpa using hg,.inr (.inr (.inl ⟨u,f,hop⟩))⟩
      ·cases hp
     ·rename_i q hop
      split at hp
      ·rename_i hg;simp at hp;subst hp;exact ⟨by simpa using hg,.inr (.inr (.inr hop))⟩
      ·cases hp
     ·cases hp
    refine ⟨hgo.1,p,hgo.2,?_⟩
    have hag:=BE (fr:=fr) (vals:=ys) (ls:=ZQ i (Xb l i)) (R:= [p]) hap (by grind) hlen (fun j hj=>by have:=Ws j hj;omega) fun t ht j hj hd=>by
     have h5:=Zx.1 h j (Zz.2 hj);simp at ht;subst ht;rw [hd] at h5
     grind
    rw [hag p Zb,hfin]
    exact ho)
  (fun i o hi him ho=>by
   have:=h3 i o (by
    grind [C1])
   grind)
  (fun fr2 L ι1 a1 w1 k1 g1 f1=>Yg (P:=P) (ops:=List.toArray l) _ _ L _ k1 F ι1 a1 w1 g1.rel f1 fun fr' H' ι' a' w' k g f=>⟨fr',H',ι',k,g0.trans (g1.trans g),f⟩)
  n (Array.replicate l.length false) a { w with drawn:=w.drawn+1 }
  ⟨Zb,fun j oj _ hl=>(by grind [getD_replicate_false]),fun t _ ht=>getD_in (by grind) (getD_replicate_false _ _)⟩
  (by
   grind [List.filter_eq_self,getD_replicate_false])
  ⟨ms,[],H,⟨fun _=>rfl,fun _ _=>rfl⟩,hL3,fun m hm=>hm,fun m hm=>by grind [getD_replicate_false],fun p hp=>(by cases hp),by
    grind [Rx],ι,⟨g0.rel,hf0.1,hf0.2.1,fun t x ht _=>hf0.2.2 t x ht,fun j d x _ hl=>by grind [getD_replicate_false]⟩,Good.refl g0.rel,fun p hp=>(by cases hp)⟩
 grind [Zu]
theorem L6 {P ko l rem fr H K} (h:K fr H):CI P ko l 0 rem fr H K:=h
theorem Im {P ko l n rem fr H K} (m:Nat) (R:V->List Obj->Prop) (hr:QB l rem= [m]) (h:Zy P (Xb l m) fr H R) (k: ∀y H',R y H'->(∀k∈ko,oat H' k=oat H k)/\CI P ko l n (rem.erase m) (UQ fr (Xb l m).dst y) H' K):CI P ko l (n+1) rem fr H K:=fun m' hm'=>by
 rw [hr,List.mem_singleton] at hm';subst hm';exact ⟨R,.inl h,k⟩
end Go.AM
