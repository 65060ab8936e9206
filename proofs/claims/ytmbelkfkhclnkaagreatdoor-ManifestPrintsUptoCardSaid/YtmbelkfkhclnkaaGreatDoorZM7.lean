/- Declarations that the closing texts need, part 7: joined by tools/slim.py. -/
import Derived.Test.YtmbelkfkhclnkaaGreatDoorZM6
import Derived.Lib.LazyBuf
set_option linter.unusedVariables false
set_option linter.unusedSimpArgs false
namespace Go.AM
open Go.RowKit
@[go_sem ↓] theorem RI {P ds o l m fr H K} :Xa P ds (List.append (o::l) m) fr H K=Xa P ds (o::List.append l m) fr H K:=rfl
@[go_sem ↓] theorem RK {P ds m fr H K} :Xa P ds (List.append [] m) fr H K=Xa P ds m fr H K:=rfl
@[go_sem] theorem Sj {α:Type} {x:α} {l m} :List.append (x::l) m=x::List.append l m:=rfl
@[go_sem] theorem dD {α:Type} {m:List α} :List.append [] m=m:=rfl
theorem Z9 {P:Program} {ops:Array Oper} {Q:Exit->Act->World->Prop} {r:List Oper} : ∀(l:List Oper) (fr:List V) (H:List Obj) (K:List V->List Obj->Prop),Xa P (ops.toList.map (·.dst)) l fr H K ->
  ∀F ι a w,Rel F H ι w->Fr F H ι w fr a ->
   (∀fr' H' ι' a' w',K fr' H'->Good F H ι w H' ι' w'->Fr F H' ι' w' fr' a'->wpList P ops Q r a' w')->wpList P ops Q (l++r) a w
 | [],fr,H,K,h,F,ι,a,w,hr,hf,hq=>hq fr H ι a w h (Good.refl hr) hf
 | o::l,fr,H,K,h,F,ι,a,w,hr,hf,hq=>by
  have step: ∀ {fr:List V} {a:Act},Fr F H ι w fr a->Zl P o fr H (fun x H'=>Xa P (ops.toList.map (·.dst)) l (Wz fr o.dst x) H' K)->o.wp P a w (wpList P ops Q (l++r)) Q:=fun hf h =>
   V6 h hr hf fun x H' ι' v w' hk g q=>Z9 l _ H' K hk F ι' _ w' g.rel ((g.fr hf).put o.dst q)
    fun fr' H2 ι2 a' w2 k2 g2 f2=>hq fr' H2 ι2 a' w2 k2 (g.trans g2) f2
  simp only [Xa] at h;simp only [List.cons_append,wpList]
  split at h
  ·rename_i hg
   have hw:Region.wanted o (yielded ops a.tmps)=true:=by simp [Region.wanted,hg]
   rw [if_pos hw];exact .inl (step hf h)
  ·rename_i j b hg;unfold ZG at h
   split at h
   rotate_left
   ·rename_i hc;have hy:=Yk hf hc
    have hw: ¬(Region.wanted o (yielded ops a.tmps)=true):=by simp [Region.wanted,hg,hy]
    rw [if_neg hw];exact Z9 l _ H K h F ι _ w hr (hf.put o.dst YM) hq
   ·exact h.elim
   rename_i c hc;have hy:=Wo hf hc
   by_cases hcb:c=b
   ·have hw:Region.wanted o (yielded ops a.tmps)=true:=by simp [Region.wanted,hg,hy,hcb]
    rw [if_pos hw];exact .inl (step hf (h.1 hcb))
   ·have hw: ¬(Region.wanted o (yielded ops a.tmps)=true):=by simp [Region.wanted,hg,hy,hcb]
    rw [if_neg hw];exact Z9 l _ H K (h.2 hcb) F ι _ w hr (hf.put o.dst YM) hq
theorem RV.refB {F H ι w x v} (h:RV F H ι w x v):refB H.length x=true:=by
 have lt: ∀ {o:Nat} {ob:Obj},H[o]? =some ob->o<H.length:=fun h=>(List.getElem?_eq_some_iff.1 h).1
 have all: ∀(l:List V),(∀(j:Nat) (c:V),l[j]? =some c->AM.refB H.length c=true)->Zw H.length l=true:=fun l=>by
  induction l with
  | nil=>intro _;rfl
  | cons x l ih=>intro h;simp only [Zw,Bool.and_eq_true];exact ⟨h 0 x rfl,ih fun j c hj=>h (j+1) c (by simpa using hj)⟩
 induction h with
 | p=>rfl
 | agg cs a hs _ ih=>exact all cs ih
 | fn f cs ds a e hs ht _ _ ih1 ih2=>simp only [AM.refB,Bool.and_eq_true];exact ⟨all cs ih1,all ds ih2⟩
 | tup cs a hs _ ih=>exact all cs ih
 | ptr o off b cs h hH=>simp [AM.refB,lt hH]
 | ep o i j tot b S xs h hH ht=>simp [AM.refB,lt hH]
 | slNil o S a h hH=>simp [AM.refB,lt hH]
 | sl o off len tot b S cap t xs c h hH=>simp [AM.refB,lt hH]
 | lp=>rfl
 | mp o b es h hH=>simp [AM.refB,lt hH]
 | mpD o v h=>simp [AM.refB,lt h]
 | bp o b T E r bs h hH=>simp [AM.refB,lt hH]
 | bpD o v h=>simp [AM.refB,lt h]
 | err=>rfl
 | junk=>rfl
 | ptrD o off v h=>simp [AM.refB,lt h]
 | epD o i j tot v h=>simp [AM.refB,lt h]
 | slD o off len tot v h=>simp [AM.refB,lt h]
 | epS o i j tot v S xs h hne=>simp [AM.refB,lt h]
 | slS o off len tot v S xs h hne=>simp [AM.refB,lt h]
 | slC o tot b cap cs h hH hl hm=>simp [AM.refB,lt hH]
theorem Rel.refH {F H ι w} (h:Rel F H ι w):refH H.length H=true:=by
 rw [AM.refH,List.all_eq_true];intro ob hm;obtain ⟨o,ho⟩:=List.mem_iff_getElem?.1 hm
 cases ob with
 | cells cs =>
  obtain ⟨b,c,t,_,_,_,h4⟩:=h.cel o cs ho
  have: ∀(l:List V),(∀x∈l,refB H.length x=true)->Zw H.length l=true:=fun l=>by
   induction l with
   | nil=>intro _;rfl
   | cons x l ih=>simp_all [Zw]
  exact this cs fun x hx=>by
   obtain ⟨j,hj⟩:=List.mem_iff_getElem?.1 hx;exact (h4 j x hj).refB
 | elems=>rfl
 | map=>rfl
 | bld T E r bs=>simpa using (List.getElem?_eq_some_iff.1 (h.bldr o T E r bs ho).2.1).1
 | dead=>rfl
def VT (o:Oper):Oper:= { o with op:= .move (.tmp 1000000) }
def YR : Nat->List Oper->List Oper
 | _,[]=> []
 | 0,o::l=>VT o::l
 | m+1,o::l=>o::YR m l
theorem WV : ∀(m:Nat) (l:List Oper) (i:Nat),(YR m l)[i]? =if i=m then (l[i]?).map VT else l[i]?
 | m,[],i=>by grind [YR]
 | 0,o::l,0=>by simp [YR]
 | 0,o::l,i+1=>by simp [YR]
 | m+1,o::l,0=>by simp [YR]
 | m+1,o::l,i+1=>by simp [YR,WV m l i]
theorem AI : ∀(m:Nat) (l:List Oper),(YR m l).map (·.dst)=l.map (·.dst)
 | m,[]=>by grind [YR]
 | 0,o::l=>by rfl
 | m+1,o::l=>by simp [YR,AI m l]
theorem AJ : ∀(m:Nat) (l:List Oper),(YR m l).length=l.length
 | m,[]=>by grind [YR]
 | 0,o::l=>by simp [YR]
 | m+1,o::l=>by simp [YR,AJ m l]
theorem Gh : ∀ {fr:List V} {t:Nat},fr.length<=t->gt fr t= .junk
 | [],_,_=>rfl
 | _::_,0,h=>by simp at h
 | _::l,t+1,h=>by simp only [gt];exact Gh (by simpa using h)
@[go_sem] theorem Sp {o:Oper} {l} :YR 0 (o::l)=VT o::l:=rfl
@[go_sem] theorem So {o:Oper} {l m} :YR (m+1) (o::l)=o::YR m l:=rfl
@[go_sem] theorem dL {d op t ps af g} :VT ⟨d,op,t,ps,af,g⟩=⟨d,.move (.tmp 1000000),t,ps,af,g⟩:=rfl
theorem Lv {fr:List V} {d:Option Nat} {x:V} :(Wz fr d x).length=fr.length:=by cases d<;>simp [Wz,Yf]
theorem Lu {fr:List V} {d:Option Nat} {v x:V} {t:Nat} (h:(Wz fr d v)[t]? =some x):(d=some t/\x=v/\t<fr.length)\/(d≠some t/\fr[t]? =some x):=by
 cases d with
 | none=>exact .inr ⟨Zb,h⟩
 | some d =>
  simp only [Wz,Yf] at h
  grind
theorem BK {ds:List (Option Nat)} {vals:List V} {n:Nat} (hap:Wc ds n=true) (hn:n<=ds.length) (hv:vals.length=n) {R:List Nat} {ls:List Nat} (hls: ∀j∈ls,j<n) {fr:List V} (hR: ∀t∈R,∀j,j<n->ds[j]? =some (some t)->j∈ls) :
  WD R (Zt ds vals ls (ZE (ds.take n) fr)) (Zt ds vals (List.range n) (ZE (ds.take n) fr)):=fun t ht=>by
 apply Js
 by_cases hex: ∃j,j<n/\ds[j]? =some (some t)
 ·grind [VG,Xz]
 grind [WO]
def Wx : List Nat->List Oper->List Oper
 | [],l=>l
 | m::ms,l=>Wx ms (YR m l)
theorem AK : ∀(ms:List Nat) (l:List Oper),(Wx ms l).map (·.dst)=l.map (·.dst)
 | [],_=>rfl
 | m::ms,l=>by rw [Wx,AK ms,AI]
theorem AL : ∀(ms:List Nat) (l:List Oper),(Wx ms l).length=l.length
 | [],_=>rfl
 | m::ms,l=>by rw [Wx,AL ms,AJ]
theorem QB : ∀(ms:List Nat) (l:List Oper) (i:Nat),i ∉ ms->(Wx ms l)[i]? =l[i]?
 | [],_,_,_=>rfl
 | m::ms,l,i,h=>by
  simp at h;rw [Wx,QB ms _ i h.2,WV,if_neg h.1]
theorem Ku : ∀(ms:List Nat) (l:List Oper) (i:Nat) (o:Oper),i∈ms->l[i]? =some o->(Wx ms l)[i]? =some (VT o)
 | [],_,_,_,h,_=>by cases h
 | m::ms,l,i,o,h,ho=>by
  rw [Wx]
  by_cases hi:i∈ms
  ·by_cases e:i=m
   ·subst e;have:=Ku ms (YR i l) i (VT o) hi (by rw [WV,if_pos rfl,ho];rfl);rw [this];rfl
   ·exact Ku ms (YR m l) i o hi (by rw [WV,if_neg e];exact ho)
  ·have e:i=m:=by
    grind
   subst e;rw [QB ms _ _ hi,WV,if_pos rfl,ho];rfl
def Z6 : List Oper->Nat->Oper
 | [],_=>default
 | o::_,0=>o
 | _::l,n+1=>Z6 l n
theorem Dn : ∀(l:List Oper) (n:Nat),Z6 l n=l.getD n default
 | [],n=>by simp [Z6]
 | o::l,0=>rfl
 | o::l,n+1=>by simp [Z6,Dn l n]
@[go_sem] theorem Sl {o:Oper} {l} :Z6 (o::l) 0=o:=rfl
@[go_sem] theorem Sk {o:Oper} {l n} :Z6 (o::l) (n+1)=Z6 l n:=rfl
@[go_sem] theorem dM {l:List Oper} :Wx [] l=l:=rfl
@[go_sem] theorem Sq {m ms} {l:List Oper} :Wx (m::ms) l=Wx ms (YR m l):=rfl
def E8 (l:List Oper):List (Nat×V)->List V->List V
 | [],fr=>fr
 | (m,y)::dn,fr=>Wz (E8 l dn fr) (Z6 l m).dst y
theorem UU (l:List Oper): ∀(dn:List (Nat×V)) (fr:List V),(E8 l dn fr).length=fr.length
 | [],_=>rfl
 | (m,y)::dn,fr=>by rw [E8,Lv,UU l dn fr]
theorem Dz (l:List Oper) {x:V} {t:Nat} : ∀(dn:List (Nat×V)) (fr:List V),(E8 l dn fr)[t]? =some x->(∃p,p∈dn/\(Z6 l p.1).dst=some t/\x=p.2/\t<fr.length)\/fr[t]? =some x
 | [],_,h=> .inr h
 | (m,y)::dn,fr,h=>by
  rcases Lu h with ⟨h1,h2,h3⟩ | ⟨_,h2⟩
  ·exact .inl ⟨(m,y),Zb,h1,h2,by rw [UU] at h3;exact h3⟩
  ·rcases Dz l dn fr h2 with ⟨p,h3,h4⟩ | h3
   ·exact .inl ⟨p,by simp [h3],h4⟩
   ·exact .inr h3
theorem JL (l:List Oper) {R:List Nat} {f1 f2:List V} (hl:f1.length=f2.length) (h:WD R f1 f2): ∀dn,WD R (E8 l dn f1) (E8 l dn f2)
 | []=>h
 | (m,y)::dn=>fun t ht=>by
  have ih:=JL l hl h dn t ht
  have hl2:(E8 l dn f1).length=(E8 l dn f2).length:=by grind [UU]
  simp only [E8]
  cases (Z6 l m).dst with
  | none=>exact ih
  | some d =>
   grind [Wz,Yf,Ap]
def Ut (l:List Oper) (rem:List Nat):List Nat:=rem.filter fun m=>rem.all fun m'=> !(Zx m (Z6 l m)).contains m'
def Wt (P:Program) (H:List Obj) (l:List Oper):Nat->List Nat->List V->List Obj->(List V->List Obj->Prop)->Prop
 | 0,_,fr,L,K=>K fr L
 | n+1,rem,fr,L,K=> ∀m∈Ut l rem,∃y L',Zl P (Z6 l m) fr (H++L) (fun x H'=>x=y/\H'=H++L')/\Wt P H l n (rem.erase m) (Wz fr (Z6 l m).dst y) L' K
def TF (P:Program) (F:Nat->Prop) (H:List Obj) (l:List Oper) (ms:List Nat) (bs:List V) (K:List V->List Obj->Prop) (ds:List (Option Nat)) (fr vals:List V) (n:Nat) (ι0:List (Option Nat)) (w0:World) (listed:Array Bool) (a:Act) (w:World):Prop :=
 ∃(rem:List Nat) (dn:List (Nat×V)) (L:List Obj),rem.Nodup/\(∀m∈rem,m∈ms)/\(∀m∈ms,listed.getD m false=decide (m ∉ rem))/\(∀p∈dn,p.1∈ms/\p.1 ∉ rem)/\Wt P H l rem.length rem (E8 l dn bs) L K /\
  ∃ι ιL,ι.length=H.length/\Mid (Own F ιL) H ds fr vals n listed ι a w/\Good F H ι0 w0 (H++L) (ι++ιL) w /\
   ∀p∈dn,∀d,(Z6 l p.1).dst=some d->d<fr.length->RV F (H++L) (ι++ιL) w p.2 (a.tmps.getD d undef)
theorem Bt {P:Program} {ops:Array Oper} {Q:Exit->Act->World->Prop} {F H fr vals} {n:Nat} {l:List Oper} {ms:List Nat} {K:List V->List Obj->Prop} (hol:ops.toList=l) (hB:Wr ops n=true) (hvl:vals.length=n)
  (hms: ∀m∈ms,m<n/\ops[m]? =some (Z6 l m)/\(Z6 l m).guard=none/\vals[m]? =some .junk)
  (hrd: ∀m∈ms,∀t∈YJ (Z6 l m).op,∀j,j<n->(ops.toList.map (·.dst))[j]? =some (some t)->j∈Zx m (Z6 l m))
  (hok: ∀(i:Nat) (o:Oper),i<n->i ∉ ms->ops[i]? =some o->HQ P (ops.toList.map (·.dst)) (ZE ((ops.toList.map (·.dst)).take n) fr) H vals i o) {ι0 w0}
  (ht: ∀fr' L ι a w,K fr' L->Good F H ι0 w0 (H++L) ι w->Fr F (H++L) ι w fr' a->wpList P ops Q (ops.toList.drop n) a w) :
  ∀(u:Nat) (listed:Array Bool) (a:Act) (w:World),HeadInv .any ops n listed->((List.range n).filter fun i=> !listed.getD i false).length=u ->
   TF P F H l ms (Zt (ops.toList.map (·.dst)) vals (List.range n) (ZE ((ops.toList.map (·.dst)).take n) fr)) K (ops.toList.map (·.dst)) fr vals n ι0 w0 listed a w->wpAny P .any ops Q (u+(ops.size-n)) listed a w:=by
 simp only [Wr,Bool.and_eq_true,decide_eq_true_eq,Bool.or_eq_true] at hB;obtain ⟨⟨⟨⟨hn,hsc⟩,hea⟩,hap⟩,hseq⟩:=hB
 have hdl:n<=(ops.toList.map (·.dst)).length:=by grind
 -- the frame at late operations done, azs far azs is listed
 have frAt: ∀ {dn:List (Nat×V)} {L:List Obj} {listed:Array Bool} {ι ιL:List (Option Nat)} {a:Act} {w:World} (ls:List Nat),(∀j∈ls,j<n/\listed.getD j false=true)->Mid (Own F ιL) H (ops.toList.map (·.dst)) fr vals n listed ι a w ->
   (∀p∈dn,∀d,(Z6 l p.1).dst=some d->d<fr.length->RV F (H++L) (ι++ιL) w p.2 (a.tmps.getD d undef)) ->
   Fr F (H++L) (ι++ιL) w (E8 l dn (Zt (ops.toList.map (·.dst)) vals ls (ZE ((ops.toList.map (·.dst)).take n) fr))) a:=fun {dn L listed ι ιL a w} ls hls mid slot=>by
  obtain ⟨f1,f2,f3⟩:=mid.fr ls hls;refine ⟨by rw [UU];exact f1,f2,fun t x hx=> ?_⟩;rcases Dz l dn _ hx with ⟨p,h1,h2,rfl,h4⟩ | h1
  ·grind [Xz,XH]
  ·exact (f3 t x h1).widen
 intro u
 induction u with
 | zero =>
  intro listed a w inv hm mid
  have XV: ∀i,i<n->listed.getD i false=true:=fun i hi=>by
   have h0:=List.eq_nil_of_length_eq_zero hm
   have:i ∉ (List.range n).filter fun i=> !listed.getD i false:=by rw [h0];simp
   grind
  have hl:listed=Array.replicate n true++Array.replicate (ops.size-n) false:=by
   refine Array.ext (by simp [inv.size];omega) fun i h1 h2=> ?_
   by_cases hi:i<n
   ·have:=XV i hi;rw [Array.getElem_append_left (by grind)];simp [h1] at this;simp [this]
   ·have:=inv.tail i Za (by grind);rw [Array.getElem_append_right (by simp;omega)];simp [h1] at this;simp [this]
  obtain ⟨rem,dn,L,hnd,hrm,hst,hdn,hlt,ι,ιL,hιl,mid,gd,slot⟩:=mid
  have hs:rem= []:=by
   cases rem with
   | nil=>rfl
   | cons m r =>
    have h1:=hst m (hrm m Zb)
    grind
  subst hs;have hw:=ht _ L (ι++ιL) a w hlt gd (frAt (List.range n) (fun j hj=>⟨List.mem_range.1 hj,XV j (List.mem_range.1 hj)⟩) mid slot);have:=wpAny_of_seq (md:= .any) (Q':=Q) (ops.toList.drop n) n listed a w (fun j=>Zb) (by grind) hw
  grind
 | succ u ih =>
  intro listed a w inv hm mid
  have hun: ∃i,i<n/\listed.getD i false=false:=by
   cases hf:(List.range n).filter fun i=> !listed.getD i false with
   | nil=>grind
   | cons i l =>
    have:i∈(List.range n).filter fun i=> !listed.getD i false:=by rw [hf];simp
    grind
  have hsz: ∀ {i},i<n->i<listed.size:=fun h=>by rw [inv.size];omega
  have hready:Region.ready .any ops listed≠ []:=by
   obtain ⟨i,hi,hu⟩:=hun
   have: ∃i,i<n/\listed.getD i false=false/\ ∀j,j<i->listed.getD j false=true:=by
    induction i using Nat.strongRecOn with
    | _ i ihh =>
     by_cases hex: ∃j,j<i/\listed.getD j false=false
     ·obtain ⟨j,hj,hju⟩:=hex;exact ihh j hj Za hju
     grind
   obtain ⟨i,hi,hu,hmin⟩:=this;intro h0
   have:i∈Region.ready .any ops listed:=by
    have hlt:i<ops.size:=Za
    refine mem_ready.2 ⟨getD_in (hsz hi) hu,ops[i],by simp [hlt],fun e he hb=> ?_⟩;have h1:=List.all_eq_true.1 hea i (List.mem_range.2 hi)
    grind [Array.all_eq_true_iff_forall_mem]
   grind
  rw [show u+1+(ops.size-n)=(u+(ops.size-n))+1 by omega];refine ⟨fun h0=>absurd h0 hready,fun i hi=> ?_⟩
  have hin:i<n:=by
   rcases hsc with h | ⟨hs,hc⟩
   ·obtain ⟨_,o,ho,_⟩:=mem_ready.1 hi
    grind
   ·rcases Nat.lt_or_ge i n with h | h
    ·exact h
    ·obtain ⟨k,hk,hu⟩:=hun
     by_cases hne:n<ops.size
     ·exact absurd hi (tail_waits hs hc hne inv _ k rfl hk (getD_in (hsz hk) hu) i h)
     grind [mem_ready]
  obtain ⟨hiu,o,ho,XV⟩:=mem_ready.1 hi
  have hds:(ops.toList.map (·.dst))[i]? =some o.dst:=by simp [ho]
  have hdeps: ∀j∈Zx i o,j<n/\listed.getD j false=true:=fun j hj=>by
   refine ⟨by have:=Yn j hj;omega,?_⟩;simp [Zx] at hj
   grind
  have hcount:((List.range n).filter fun k=> !(listed.setIfInBounds i true).getD k false).length=u:=by
   have e:((List.range n).filter fun k=> !(listed.setIfInBounds i true).getD k false)=((List.range n).filter fun k=> !listed.getD k false).filter (fun k=>k≠i):=by
    rw [List.filter_filter];refine List.filter_congr fun k hk=> ?_
    by_cases hki:k=i
    ·subst hki;simp [hsz hin]
    ·rw [getD_set_ne false (fun h=>hki h.symm)];simp [hki]
   rw [e]
   have hmem:i∈(List.range n).filter fun k=> !listed.getD k false:=by
    grind
   have hnd:((List.range n).filter fun k=> !listed.getD k false).Nodup:=List.nodup_range.filter _;have:=List.Nodup.erase_eq_filter hnd i
   grind
  have next: ∀v w',TF P F H l ms (Zt (ops.toList.map (·.dst)) vals (List.range n) (ZE ((ops.toList.map (·.dst)).take n) fr)) K (ops.toList.map (·.dst)) fr vals n ι0 w0 (listed.setIfInBounds i true) (a.put o.dst v) w'->wpAny P .any ops Q (u+(ops.size-n)) (listed.setIfInBounds i true) (a.put o.dst v) w':=fun v w' h =>
   ih _ _ w' (inv.set hi hin) hcount h
  have hiu2:listed.getD i false=false:=getD_both hiu;obtain ⟨rem,dn,L,hnd,hrm,hst,hdn,hlt,ι,ιL,hιl,mid,gd,slot⟩:=mid
  -- a slot that this operation does not write
  have hoth: ∀ {e:Nat} {v:Value},o.dst≠some e->((a.put o.dst v).tmps).getD e undef=a.tmps.getD e undef:=fun {e v} hne=>by
   cases hdst:o.dst with
   | none=>rfl
   | some d =>
    have hne2:d≠e:=fun h=>hne (by rw [hdst,h]);simp [Act.put,Array.getD_eq_getD_getElem?,Array.getElem?_setIfInBounds_ne hne2]
  have hapart: ∀ {j e:Nat},j<n->j≠i->(ops.toList.map (·.dst))[j]? =some (some e)->o.dst≠some e:=fun {j e} hj hji hd h=>by
   have:=List.all_eq_true.1 (List.all_eq_true.1 hap i (List.mem_range.2 hin)) j (List.mem_range.2 hj)
   grind
  have hdm: ∀m∈ms,(ops.toList.map (·.dst))[m]? =some (Z6 l m).dst:=fun m hm=>by
   grind
  unfold wpOp;simp only [ho]
  by_cases him:i∈ms
  ·-- a late one
   obtain ⟨_,hom,hgm,hvm⟩:=hms i him;rw [hom] at ho;simp at ho;subst ho
   have hir:i∈rem:=by
    grind
   have hrl:i∈Ut l rem:=by
    rw [Ut,List.mem_filter]
    grind
   obtain ⟨k,hk⟩: ∃k,rem.length=k+1:=⟨rem.length-1,by grind⟩;rw [hk] at hlt;obtain ⟨y,L',hstep,hlt'⟩:=hlt i hrl
   let ls:=(List.range n).filter fun j=>listed.getD j false
   have hls: ∀j∈ls,j<n/\listed.getD j false=true:=fun j hj=>by grind
   have hfr:=frAt (dn:=dn) (L:=L) ls hls mid slot
   have hag:WD (YJ (Z6 l i).op) (Zt (ops.toList.map (·.dst)) vals ls (ZE ((ops.toList.map (·.dst)).take n) fr)) (Zt (ops.toList.map (·.dst)) vals (List.range n) (ZE ((ops.toList.map (·.dst)).take n) fr)) :=
    BK hap hdl hvl (fun j hj=>(hls j hj).1) fun t ht j hj hd=>by
     have:=hdeps j (hrd i him t ht j hj hd);simpa [ls] using this
   have hl:=(Ux (JL l (by simp [Xz]) hag dn)).2 hstep
   have hw:Region.wanted (Z6 l i) (yielded ops a.tmps)=true:=by simp [Region.wanted,hgm]
   rw [if_pos hw];refine .inl (V6 hl gd.rel hfr fun x H' ι' v w' hk g r=> ?_);obtain ⟨hx,rfl⟩:=hk;subst hx
   obtain ⟨ι1,ιL',rfl,hl1⟩: ∃ι1 ιL',ι'=ι1++ιL'/\ι1.length=H.length:=⟨ι'.take H.length,ι'.drop H.length,(List.take_append_drop _ _).symm,by
    have:=g.rel.len;rw [List.length_append] at this
    simp;omega⟩
   have trans: ∀ {x:V} {v:Value},RV (Own F ιL) H ι w x v->RV (Own F ιL') H ι1 w' x v:=fun {x v} h=>(g.rv h.widen).narrow hl1 h.refB
   have Zt: ∀m∈ms,(listed.setIfInBounds i true).getD m false=decide (m ∉ rem.erase i):=fun m hm=>by
    by_cases e:m=i
    ·subst e;simp [hsz hin,hnd.not_mem_erase]
    ·rw [getD_set_ne false (fun h=>e h.symm),hst m hm]
     grind
   have hpi: ∀p∈dn,p.1≠i:=fun p hp e=>(hdn p hp).2 (e ▸ hir);refine next v w' ⟨rem.erase i,(i,x)::dn,L',hnd.erase i,fun m hm=>hrm m (List.mem_of_mem_erase hm),Zt,fun p hp=> ?_,?_,ι1,ιL',hl1,⟨g.rel.front hl1 mid.rel.refH,?_,?_,fun t z ht' hnt=> ?_,fun j e z hj hlj hd hz hlt=> ?_⟩,gd.trans g,fun p hp d hd hlt=> ?_⟩
   ·rcases List.mem_cons.1 hp with rfl | hp
    ·grind
    grind
   ·have:(rem.erase i).length=k:=by grind
    rw [this];exact hlt'
   ·cases (Z6 l i).dst<;>simp [Act.put,mid.size]
   ·cases (Z6 l i).dst<;>exact mid.defers
   ·rw [hoth (fun e=>hnt (by
     rw [List.mem_iff_getElem?]
     exact ⟨i,by grind⟩))]
    exact trans (mid.old t z ht' hnt)
   ·by_cases hij:j=i
    ·subst hij;rw [hvm] at hz;simp at hz;subst hz;exact .junk _
    ·have hl':listed.getD j false=true:=by rwa [getD_set_ne false (fun h=>hij h.symm)] at hlj
     rw [hoth (hapart hj hij hd)];exact trans (mid.new j e z hj hl' hd hz hlt)
   ·rcases List.mem_cons.1 hp with rfl | hp
    ·simp only at hd;rw [hd]
     have:d<a.tmps.size:=by rw [mid.size];exact hlt
     have e2:((a.put (some d) v).tmps).getD d undef=v:=by simp [Act.put,Array.getD,this]
     grind
    ·have hpm:=(hdn p hp).1;rw [hoth (hapart (hms _ hpm).1 (hpi p hp) (by grind))];exact g.rv (slot p hp d hd hlt)
  ·-- another
   obtain ⟨z,hz,hok'⟩:=hok i o hin him ho;have hfr:=mid.fr _ hdeps
   have next': ∀ι' v w',Good (Own F ιL) H ι w H ι' w'->RV (Own F ιL) H ι' w' z v->wpAny P .any ops Q (u+(ops.size-n)) (listed.setIfInBounds i true) (a.put o.dst v) w':=fun ι' v w' g r=>by
    have g2:=Good.front hιl gd.rel g rfl;refine next v w' ⟨rem,dn,L,hnd,hrm,fun m hm=> ?_,hdn,hlt,ι',ιL,g.rel.len,mid.put hap g hin hds hz r,gd.trans g2,fun p hp d hd hlt=> ?_⟩
    ·rw [getD_set_ne false (fun (e:i=m)=>him (e ▸ hm))];grind
    ·have hpm:=(hdn p hp).1;rw [hoth (hapart (hms _ hpm).1 (fun h=>him (h ▸ hpm)) (by grind))];exact g2.rv (slot p hp d hd hlt)
   have run:Zo P o (Zt (ops.toList.map (·.dst)) vals (Zx i o) (ZE ((ops.toList.map (·.dst)).take n) fr)) H (fun x H'=>x=z/\H'=H)->o.wp P a w (wpAny P .any ops Q (u+(ops.size-n)) (listed.setIfInBounds i true)) Q:=fun h =>
    JY h mid.rel hfr fun x H' ι' v w' hk g r=>by
     grind
   split at hok'
   ·rename_i hg
    have hw:Region.wanted o (yielded ops a.tmps)=true:=by simp [Region.wanted,hg]
    grind
   ·rename_i j b hg;rcases hok' with ⟨c,hc,h1,h2⟩ | ⟨hc,hyt⟩
    rotate_left
    ·have hyl:=Yk hfr hc
     have hw: ¬(Region.wanted o (yielded ops a.tmps)=true):=by grind [Region.wanted]
     rw [if_neg hw];exact next' ι undef w (Good.refl mid.rel) (by grind [YM])
    have hyl:=Wo hfr hc
    by_cases hcb:c=b
    ·have hw:Region.wanted o (yielded ops a.tmps)=true:=by grind [Region.wanted]
     grind
    ·have hw: ¬(Region.wanted o (yielded ops a.tmps)=true):=by grind [Region.wanted]
     rw [if_neg hw];exact next' ι undef w (Good.refl mid.rel) (by grind [YM])
def Gt (l : List Oper) (n : Nat) (ms : List Nat) : Bool :=
  (ms.all fun m => decide (m < n) && decide (m < l.length) && ((Z6 l m).guard.isNone && (YJ (Z6 l m).op).all fun t => (List.range n).all fun j => match (l.map (·.dst))[j]? with
        | some (some d) => decide (d ≠ t) || (Zx m (Z6 l m)).contains j
        | _ => true)) && decide ms.Nodup
theorem U9 (ms:List Nat) {P:Program} {id:Nat} {l:List Oper} {fr:List V} {H:List Obj} {Q:Exit->List V->List Obj->Prop} {t} (n:Nat) (hm:P.follows .mixedOrders=true) (hB:Wr (List.toArray l) n=true) (hR:Us (List.toArray (Wx ms l)) n=true) (hL:Gt l n ms=true) (hfl:fr.length<=1000000)
  (h:hs P (l.map (·.dst)) H (Zm (fun fr'=>Wt P H l ms.length ms (Gl fr') [] (Zm (fun fr2 L=>Xa P (l.map (·.dst)) (l.drop n) fr2 (H++L) (Zm (Q .normal) ⟨⟩)) ⟨⟩)) ⟨⟩) ((Wx ms l).take n) (Gl fr)) :
  AWP P (.region id (Zm (List.toArray l) t) true) fr H Q:=fun F ι a w hr hf=>by
 refine wp_region_any hm ?_;have hB':=hB;simp only [Wr,Bool.and_eq_true,decide_eq_true_eq] at hB';obtain ⟨⟨⟨⟨hn,_⟩,_⟩,hap⟩,_⟩:=hB'
 have hn2:n<=l.length:=Za
 simp only [Gt,Bool.and_eq_true,List.all_eq_true,decide_eq_true_eq] at hL;obtain ⟨hL1,hL3⟩:=hL;have hds:(Wx ms l).map (·.dst)=l.map (·.dst):=AK ms l;have hh:=Gk (P:=P) (H:=H) (ops:=List.toArray (Wx ms l)) (n:=n) (fr:=fr) (K:=fun fr'=>Wt P H l ms.length ms fr' [] (fun fr2 L=>Xa P (l.map (·.dst)) (l.drop n) fr2 (H++L) (Q .normal))) (by grind [AL]) (by grind) hR _ 0 [] (Nat.zero_le _) rfl (by simp;rfl) (by simp_all [Zt,Zm,Gl]);obtain ⟨ys,h1,⟨h2a,h2b⟩,h3⟩:=Qo _ 0 [] rfl hh;simp only [List.nil_append,hds] at h2a h2b h3;have hlen:ys.length=n:=h2a
 have g0:=Good.drew hr;have hf0:=g0.fr hf;have hget: ∀k,k<n->((Wx ms l).take n)[k]? =(Wx ms l)[k]? :=fun k hk=>List.getElem?_take_of_lt hk;have hjl:(ZE ((l.map (·.dst)).take n) fr).length=fr.length:=XH _ _
 have hlat: ∀m∈ms,m<n/\l[m]? =some (Z6 l m)/\(Z6 l m).guard=none:=fun m hm=>by
  obtain ⟨⟨h4,h5⟩,h6,_⟩:=hL1 m hm;exact ⟨h4,by grind [Dn],by simpa using h6⟩
 have hvm: ∀m∈ms,ys[m]? =some .junk:=fun m hm=>by
  obtain ⟨q1,q2,q3⟩:=hlat m hm;obtain ⟨z,hy,hk⟩:=h3 m (VT (Z6 l m)) (by grind [Ku]);rw [Nat.zero_add] at hy;have e1:(VT (Z6 l m)).guard=none:=q3;rw [e1] at hk;simp only [VT,Zo,Zl,Xl,WJ,M1,ZA] at hk
  have hk2:gt (Zt (l.map (·.dst)) ys (Zx (0+m) { Z6 l m with op:= .move (.tmp 1000000) }) (ZE ((l.map (·.dst)).take n) fr)) 1000000=z:=by grind [ev]
  grind [Gh,Xz]
 have hfin:Zt (l.map (·.dst)) ys (List.range n) (ZE ((l.map (·.dst)).take n) fr)=Zt (l.map (·.dst)) ys (List.range n) fr:=As hap (by grind) hlen
 have:=Bt (Q:=fun e a' w'=> ∃fr' H' ι',Q e fr' H'/\Good F H ι w H' ι' w'/\Fr F H' ι' w' fr' a') (F:=F) (fr:=fr) (vals:=ys) (P:=P) (H:=H) (l:=l) (ms:=ms) (K:=fun fr2 L=>Xa P (l.map (·.dst)) (l.drop n) fr2 (H++L) (Q .normal)) (ops:=List.toArray l) (ι0:=ι) (w0:= { w with drawn:=w.drawn+1 }) rfl hB hlen
  (fun m hm=>⟨(hlat m hm).1,by grind,(hlat m hm).2.2,hvm m hm⟩)
  (fun m hm t ht j hj hd=>by
   obtain ⟨_,_,h5⟩:=hL1 m hm;have h6:=h5 t ht j (List.mem_range.2 hj);simp only at hd;rw [hd] at h6
   grind)
  (fun i o hi him ho=>by
   have:=h3 i o (by
    grind [QB])
   grind)
  (fun fr2 L ι1 a1 w1 k1 g1 f1=>ZQ (P:=P) (ops:=List.toArray l) _ _ (H++L) _ k1 F ι1 a1 w1 g1.rel f1 fun fr' H' ι' a' w' k g f=>⟨fr',H',ι',k,g0.trans (g1.trans g),f⟩)
  n (Array.replicate l.length false) a { w with drawn:=w.drawn+1 }
  ⟨Zb,fun j oj _ hl=>(by grind [getD_replicate_false]),fun t _ ht=>getD_in (by grind) (getD_replicate_false _ _)⟩
  (by
   grind [List.filter_eq_self,getD_replicate_false])
  ⟨ms,[],[],hL3,fun m hm=>hm,fun m hm=>by grind [getD_replicate_false],fun p hp=>(by cases hp),by
    grind [E8],ι,[],hr.len,by
   have g1:Rel F (H++ []) (ι++ []) { w with drawn:=w.drawn+1 } :=by simpa using g0.rel
   have r1:=g1.front hr.len hr.refH
   exact ⟨r1,hf0.1,hf0.2.1,fun t x ht _=>RV.narrow (L:= []) hr.len (by simpa using hf0.2.2 t x ht) (hf0.2.2 t x ht).refB,fun j d x _ hl=>by grind [getD_replicate_false]⟩,
   by simpa using Good.refl g0.rel,fun p hp=>(by cases hp)⟩
 grind [Zm]
theorem Kp {P H l rem fr L K} (h:K fr L):Wt P H l 0 rem fr L K:=h
theorem Dl {P H l n rem fr L K} (rs:List Nat) (hr:Ut l rem=rs) (h: ∀m∈rs,∃y L',Zl P (Z6 l m) fr (H++L) (fun x H'=>x=y/\H'=H++L')/\Wt P H l n (rem.erase m) (Wz fr (Z6 l m).dst y) L' K):Wt P H l (n+1) rem fr L K:=fun m hm=>h m (hr ▸ hm)
theorem Y2 {P H l n rem fr L K} (m:Nat) (y:V) (L':List Obj) (hr:Ut l rem= [m]) (h:Zl P (Z6 l m) fr (H++L) (fun x H'=>x=y/\H'=H++L')) (k:Wt P H l n (rem.erase m) (Wz fr (Z6 l m).dst y) L' K):Wt P H l (n+1) rem fr L K :=
 Dl [m] hr fun m' hm'=>by
  grind
theorem Ep {P H l n rem fr L K} (m m2:Nat) (y:V) (L':List Obj) (y2:V) (L2:List Obj) (hr:Ut l rem= [m,m2]) (h:Zl P (Z6 l m) fr (H++L) (fun x H'=>x=y/\H'=H++L')) (h2:Zl P (Z6 l m2) fr (H++L) (fun x H'=>x=y2/\H'=H++L2))
  (k:Wt P H l n (rem.erase m) (Wz fr (Z6 l m).dst y) L' K) (k2:Wt P H l n (rem.erase m2) (Wz fr (Z6 l m2).dst y2) L2 K):Wt P H l (n+1) rem fr L K :=
 Dl [m,m2] hr fun m' hm'=>by
  grind
@[go_sem] theorem gR {H:List Obj} {n cs cs'} :QY H n (.tup cs) (.tup cs')=(cs'=cs/\Zw n cs=true):=by simp [QY,HL,refB]
def eII (p:Int×Int):PV×PV:=(.int .i64 p.1,.int .i64 p.2)
def GE (P:Program) (t:TypeId):Option (TypeDesc×Option PV):=match P.underlying t with
 | some (.map kt et)=>(P.underlying kt).map fun d=>(d,YT P et)
 | _=>none
def JF (l:List (Int×Int)) (k:Int):Option Nat:=l.findIdx? fun p=>decide (k=p.1)
def WT (l:List (Int×Int)) (k:Int):Int:=match JF l k with | some i=>((l[i]?).map (·.2)).getD 0 | none=>0
theorem Un (k:Int): ∀(l:List (Int×Int)) (n:Nat),WS (.int .i64 k) (l.map eII) n=(JF l k).map fun i=>(n+i,.int .i64 (((l[i]?).map (·.2)).getD 0))
 | [],n=>by rfl
 | p::l,n=>by
  have ih:=Un k l (n+1);simp only [List.map_cons,WS,eII,E6]
  by_cases h:k=p.1
  ·simp [h,JF,List.findIdx?_cons]
  ·simp only [h,decide_false,Bool.false_eq_true,if_false];rw [ih];simp only [JF,List.findIdx?_cons,h,decide_false,Bool.false_eq_true,if_false]
   cases l.findIdx? (fun p=>decide (k=p.1)) with
   | none=>rfl
   | some i=>simp;omega
theorem AC {P t d z} (h:GE P t=some (d,z)): ∃kt et,P.underlying t=some (.map kt et)/\P.underlying kt=some d/\YT P et=z:=by
 unfold GE at h
 split at h
 ·rename_i kt et hu;simp only [Option.map_eq_some_iff,Prod.mk.injEq] at h
  grind
 ·cases h
theorem JB {P:Program} {H:List Obj} {kt:TypeId} {o:Nat} {l:List (Int×Int)} {k:Int} (hd:P.underlying kt=some (.int .i64)) (hH:Xt H o= .map (l.map eII)):Qx P H kt (.int .i64 k) o=some (l.map eII):=by
 simp [Qx,hH,mkey,hd,eII,kpair]
theorem Qz {l:List (Int×Int)} {k:Int} {i:Nat} (h:JF l k=some i): ∃v,l[i]? =some (k,v)/\WT l k=v:=by
 grind [JF,List.findIdx?_eq_some_iff_getElem,WT]
section
variable {P : Program} {H : List Obj} {t : TypeId} {o : Nat} {l : List (Int × Int)} {k : Int} {K : V -> List Obj -> Prop}
theorem Ay (hT:GE P t=some (.int .i64,some (.int .i64 0))) (hH:Xt H o= .map (l.map eII)) (h:K (.p (.int .i64 (WT l k))) H):QA (Jh P H t (.mp o) (.p (.int .i64 k)) false) K:=by
 obtain ⟨kt,et,h1,h2,h3⟩:=AC hT;simp only [Jh,h1,JB h2 hH,Option.bind_some,Un,h3]
 grind [WT,QA]
theorem B9 {i:Nat} {v:Int} (hH:Xt H o= .map (l.map eII)) (hm:JF l k=some i) (h:(∀q,WT (l.set i (k,v)) q=if q=k then v else WT l q)->K .junk (H.set o (.map ((l.set i (k,v)).map eII)))):QA (W1 H (.mp o) (.p (.int .i64 (i:Nat))) (.p (.int .i64 v))) K:=by
 obtain ⟨u,q1,q2⟩:=Qz hm;have hil:=(List.getElem?_eq_some_iff.1 q1).1
 have e1:(l.map eII)[i]? =some (eII (k,u)):=by grind
 simp only [W1,hH,Int.natCast_nonneg,if_true,Int.toNat_natCast,e1,QA]
 have e2:(l.map eII).set i ((eII (k,u)).1,.int .i64 v)=(l.set i (k,v)).map eII:=by rw [List.map_set];rfl
 rw [e2];refine h fun q=> ?_
 have hkeys: ∀j:Nat,((l.set i (k,v))[j]?).map Prod.fst=(l[j]?).map Prod.fst:=fun j=>by
  grind
 have hmix: ∀q,JF (l.set i (k,v)) q=JF l q:=fun q=>by
  have key: ∀(a b:List (Int×Int)),a.map Prod.fst=b.map Prod.fst->JF a q=JF b q:=fun a b hab=>by
   have e: ∀c:List (Int×Int),JF c q=(c.map Prod.fst).findIdx? fun z=>decide (q=z):=fun c=>by
    rw [List.findIdx?_map];rfl
   grind
  refine key _ _ (List.ext_getElem? fun j=> ?_)
  grind
 unfold WT;rw [hmix]
 by_cases hq:q=k
 ·grind
 ·rw [if_neg hq]
  grind [Qz]
end
theorem Kd (n:Nat) {P:Program} {id:Nat} {l:List Oper} {fr:List V} {H:List Obj} {Q:Exit->List V->List Obj->Prop}
  (h:Xa P (l.map (·.dst)) (l.take n) fr H fun fr' H'=> ∃fr2 H2,Weak H.length fr' H' fr2 H2/\Xa P (l.map (·.dst)) (l.drop n) fr2 H2 (Q .normal)):AWP P (.region id (List.toArray l) false) fr H Q:=by
 intro F ι a w hr hf;refine wp_region_list ?_;have key:=Z9 (P:=P) (ops:=List.toArray l) (Q:=fun e a' w'=> ∃fr' H' ι',Q e fr' H'/\Good F H ι w H' ι' w'/\Fr F H' ι' w' fr' a') (r:=l.drop n) (l.take n) fr H _ (by simpa using h) F ι a w hr hf ?_
 ·simp_all
 ·rintro fr' H' ι' a' w' ⟨fr2,H2,hw,hk⟩ g f;obtain ⟨ι2,r2,f2,g2⟩:=hw F ι' a' w' g.rel f;exact ZQ (P:=P) (ops:=List.toArray l) _ _ H2 _ Za F ι2 _ w' r2 f2 fun fr3 H3 ι3 a3 w3 k3 g3 f3=>⟨fr3,H3,ι3,k3,(g2 H ι w (Nat.le_refl _) g).trans g3,f3⟩
end Go.AM
