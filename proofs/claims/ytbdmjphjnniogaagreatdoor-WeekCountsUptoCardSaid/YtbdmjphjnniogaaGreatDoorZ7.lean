/- Declarations that the closing texts need, part 7: joined by tools/slim.py. -/
import Derived.Test.YtbdmjphjnniogaaGreatDoorZ6
import Derived.Lib.LazyBuf
set_option linter.unusedVariables false
set_option linter.unusedSimpArgs false
namespace Go.AM
open Go.RowKit
@[go_sem ↓] theorem ZmW {P ds o l m fr H K} :YH P ds (List.append (o::l) m) fr H K=YH P ds (o::List.append l m) fr H K:=rfl
@[go_sem ↓] theorem Znh {P ds m fr H K} :YH P ds (List.append [] m) fr H K=YH P ds m fr H K:=rfl
@[go_sem] theorem Zms {α:Type} {x:α} {l m} :List.append (x::l) m=x::List.append l m:=rfl
@[go_sem] theorem Zr4 {α:Type} {m:List α} :List.append [] m=m:=rfl
theorem X8 {P:Program} {ops:Array Oper} {Q:Exit->Act->World->Prop} {r:List Oper} : ∀(l:List Oper) (fr:List V) (H:List Obj) (K:List V->List Obj->Prop),YH P (ops.toList.map (·.dst)) l fr H K ->
  ∀F ι a w,Rel F H ι w->Fr F H ι w fr a ->
   (∀fr' H' ι' a' w',K fr' H'->Good F H ι w H' ι' w'->Fr F H' ι' w' fr' a'->wpList P ops Q r a' w')->wpList P ops Q (l++r) a w
 | [],fr,H,K,h,F,ι,a,w,hr,hf,hq=>hq fr H ι a w h (Good.refl hr) hf
 | o::l,fr,H,K,h,F,ι,a,w,hr,hf,hq=>by
  have step: ∀ {fr:List V} {a:Act},Fr F H ι w fr a->Zp P o fr H (fun x H'=>YH P (ops.toList.map (·.dst)) l (ptO fr o.dst x) H' K)->o.wp P a w (wpList P ops Q (l++r)) Q:=fun hf h =>
   YK h hr hf fun x H' ι' v w' hk g q=>X8 l _ H' K hk F ι' _ w' g.rel ((g.fr hf).put o.dst q)
    fun fr' H2 ι2 a' w2 k2 g2 f2=>hq fr' H2 ι2 a' w2 k2 (g.trans g2) f2
  simp only [YH] at h;simp only [List.cons_append,wpList]
  split at h
  ·rename_i hg
   have hw:Region.wanted o (yielded ops a.tmps)=true:=by simp [Region.wanted,hg]
   rw [if_pos hw];exact .inl (step hf h)
  ·rename_i j b hg;unfold ZX at h
   split at h
   rotate_left
   ·rename_i hc;have hy:=Xo hf hc
    have hw: ¬(Region.wanted o (yielded ops a.tmps)=true):=by simp [Region.wanted,hg,hy]
    rw [if_neg hw];exact X8 l _ H K h F ι _ w hr (hf.put o.dst XK) hq
   ·exact h.elim
   rename_i c hc;have hy:=XN hf hc
   by_cases hcb:c=b
   ·have hw:Region.wanted o (yielded ops a.tmps)=true:=by simp [Region.wanted,hg,hy,hcb]
    rw [if_pos hw];exact .inl (step hf (h.1 hcb))
   ·have hw: ¬(Region.wanted o (yielded ops a.tmps)=true):=by simp [Region.wanted,hg,hy,hcb]
    rw [if_neg hw];exact X8 l _ H K (h.2 hcb) F ι _ w hr (hf.put o.dst XK) hq
theorem RV.refB {F H ι w x v} (h:RV F H ι w x v):refB H.length x=true:=by
 have lt: ∀ {o:Nat} {ob:Obj},H[o]? =some ob->o<H.length:=fun h=>(List.getElem?_eq_some_iff.1 h).1
 have all: ∀(l:List V),(∀(j:Nat) (c:V),l[j]? =some c->AM.refB H.length c=true)->ZT H.length l=true:=fun l=>by
  induction l with
  | nil=>intro _;rfl
  | cons x l ih=>intro h;simp only [ZT,Bool.and_eq_true];exact ⟨h 0 x rfl,ih fun j c hj=>h (j+1) c (by simpa using hj)⟩
 induction h with
 | p=>rfl
 | agg cs a hs _ ih=>exact all cs ih
 | fn f cs ds a e hs ht _ _ ih1 ih2=>simp only [AM.refB,Bool.and_eq_true];exact ⟨all cs ih1,all ds ih2⟩
 | tup cs a hs _ ih=>exact all cs ih
 | ptr o off b cs h hH=>simp [AM.refB,lt hH]
 | ep o i j tot b S xs h hH ht=>simp [AM.refB,lt hH]
 | slNil o S a h hH=>simp [AM.refB,lt hH]
 | sl o off len tot b S cap t xs c h hH=>simp [AM.refB,lt hH]
 | lp=>rfl
 | mp o b es h hH=>simp [AM.refB,lt hH]
 | mpD o v h=>simp [AM.refB,lt h]
 | bp o b T E r bs h hH=>simp [AM.refB,lt hH]
 | bpD o v h=>simp [AM.refB,lt h]
 | junk=>rfl
 | ptrD o off v h=>simp [AM.refB,lt h]
 | epD o i j tot v h=>simp [AM.refB,lt h]
 | slD o off len tot v h=>simp [AM.refB,lt h]
 | epS o i j tot v S xs h hne=>simp [AM.refB,lt h]
 | slS o off len tot v S xs h hne=>simp [AM.refB,lt h]
 | slC o tot b cap cs h hH hl hm=>simp [AM.refB,lt hH]
theorem Rel.refH {F H ι w} (h:Rel F H ι w):refH H.length H=true:=by
 rw [AM.refH,List.all_eq_true];intro ob hm;obtain ⟨o,ho⟩:=List.mem_iff_getElem?.1 hm
 cases ob with
 | cells cs =>
  obtain ⟨b,c,t,_,_,_,h4⟩:=h.cel o cs ho
  have: ∀(l:List V),(∀x∈l,refB H.length x=true)->ZT H.length l=true:=fun l=>by
   induction l with
   | nil=>intro _;rfl
   | cons x l ih=>intro h;simp only [ZT,Bool.and_eq_true];exact ⟨h x (by simp),ih fun y hy=>h y (by simp [hy])⟩
  exact this cs fun x hx=>by
   obtain ⟨j,hj⟩:=List.mem_iff_getElem?.1 hx;exact (h4 j x hj).refB
 | elems=>rfl
 | map=>rfl
 | bld T E r bs=>simpa using (List.getElem?_eq_some_iff.1 (h.bldr o T E r bs ho).2.1).1
 | dead=>rfl
def VK (o:Oper):Oper:= { o with op:= .move (.tmp 1000000) }
def Qo : Nat->List Oper->List Oper
 | _,[]=> []
 | 0,o::l=>VK o::l
 | m+1,o::l=>o::Qo m l
theorem W3 : ∀(m:Nat) (l:List Oper) (i:Nat),(Qo m l)[i]? =if i=m then (l[i]?).map VK else l[i]?
 | m,[],i=>by cases m<;>simp [Qo]
 | 0,o::l,0=>by simp [Qo]
 | 0,o::l,i+1=>by simp [Qo]
 | m+1,o::l,0=>by simp [Qo]
 | m+1,o::l,i+1=>by simp [Qo,W3 m l i]
theorem Zbz : ∀(m:Nat) (l:List Oper),(Qo m l).map (·.dst)=l.map (·.dst)
 | m,[]=>by cases m<;>simp [Qo]
 | 0,o::l=>by simp [Qo,VK]
 | m+1,o::l=>by simp [Qo,Zbz m l]
theorem Zca : ∀(m:Nat) (l:List Oper),(Qo m l).length=l.length
 | m,[]=>by cases m<;>simp [Qo]
 | 0,o::l=>by simp [Qo]
 | m+1,o::l=>by simp [Qo,Zca m l]
theorem ZdJ : ∀ {fr:List V} {t:Nat},fr.length<=t->gt fr t= .junk
 | [],_,_=>rfl
 | _::_,0,h=>by simp at h
 | _::l,t+1,h=>by simp only [gt];exact ZdJ (by simpa using h)
@[go_sem] theorem Znq {o:Oper} {l} :Qo 0 (o::l)=VK o::l:=rfl
@[go_sem] theorem ZqS {o:Oper} {l m} :Qo (m+1) (o::l)=o::Qo m l:=rfl
@[go_sem] theorem Zsw {d op t ps af g} :VK ⟨d,op,t,ps,af,g⟩=⟨d,.move (.tmp 1000000),t,ps,af,g⟩:=rfl
theorem Zka {fr:List V} {d:Option Nat} {x:V} :(ptO fr d x).length=fr.length:=by cases d<;>simp [ptO,Wu]
theorem Zli {fr:List V} {d:Option Nat} {v x:V} {t:Nat} (h:(ptO fr d v)[t]? =some x):(d=some t/\x=v/\t<fr.length)\/(d≠some t/\fr[t]? =some x):=by
 cases d with
 | none=>exact .inr ⟨by simp,h⟩
 | some d =>
  simp only [ptO,Wu] at h;rw [List.getElem?_set] at h
  split at h
  ·rename_i e;subst e
   split at h
   ·rename_i hl;simp at h;exact .inl ⟨rfl,h.symm,hl⟩
   ·cases h
  ·rename_i e;exact .inr ⟨by simpa using e,h⟩
theorem Vz {ds:List (Option Nat)} {vals:List V} {n:Nat} (hap:Vn ds n=true) (hn:n<=ds.length) (hv:vals.length=n) {R:List Nat} {ls:List Nat} (hls: ∀j∈ls,j<n) {fr:List V} (hR: ∀t∈R,∀j,j<n->ds[j]? =some (some t)->j∈ls) :
  Wz R (ZN ds vals ls (ZV (ds.take n) fr)) (ZN ds vals (List.range n) (ZV (ds.take n) fr)):=fun t ht=>by
 apply J0
 by_cases hex: ∃j,j<n/\ds[j]? =some (some t)
 ·obtain ⟨j,hj,hdj⟩:=hex;obtain ⟨x,hx⟩: ∃x,vals[j]? =some x:=⟨vals[j]'(by omega),by simp [hv,hj]⟩
  by_cases hlt:t<fr.length
  ·rw [Y5 hap hdj hx hj ls _ hls (hR t ht j hj hdj) (by rw [ZP];exact hlt),Y5 hap hdj hx hj _ _ (fun k hk=>by simpa using hk) (by simpa using hj) (by rw [ZP];exact hlt)]
  ·rw [List.getElem?_eq_none (by rw [ZZ,ZP];omega),List.getElem?_eq_none (by rw [ZZ,ZP];omega)]
 ·have hno: ∀j,j<n->ds[j]? ≠some (some t):=fun j hj e=>hex ⟨j,hj,e⟩;rw [Yq ls _ (fun j hj=>hno j (hls j hj)),Yq _ _ (fun j hj=>hno j (by simpa using hj))]
def VQ : List Nat->List Oper->List Oper
 | [],l=>l
 | m::ms,l=>VQ ms (Qo m l)
theorem JI : ∀(ms:List Nat) (l:List Oper),(VQ ms l).map (·.dst)=l.map (·.dst)
 | [],_=>rfl
 | m::ms,l=>by rw [VQ,JI ms,Zbz]
theorem Jk : ∀(ms:List Nat) (l:List Oper),(VQ ms l).length=l.length
 | [],_=>rfl
 | m::ms,l=>by rw [VQ,Jk ms,Zca]
theorem Uh : ∀(ms:List Nat) (l:List Oper) (i:Nat),i ∉ ms->(VQ ms l)[i]? =l[i]?
 | [],_,_,_=>rfl
 | m::ms,l,i,h=>by
  simp at h;rw [VQ,Uh ms _ i h.2,W3,if_neg h.1]
theorem JF : ∀(ms:List Nat) (l:List Oper) (i:Nat) (o:Oper),i∈ms->l[i]? =some o->(VQ ms l)[i]? =some (VK o)
 | [],_,_,_,h,_=>by cases h
 | m::ms,l,i,o,h,ho=>by
  rw [VQ]
  by_cases hi:i∈ms
  ·by_cases e:i=m
   ·subst e;have:=JF ms (Qo i l) i (VK o) hi (by rw [W3,if_pos rfl,ho];rfl);rw [this];rfl
   ·exact JF ms (Qo m l) i o hi (by rw [W3,if_neg e];exact ho)
  ·have e:i=m:=by
    rcases List.mem_cons.1 h with e | e
    ·exact e
    ·exact absurd e hi
   subst e;rw [Uh ms _ _ hi,W3,if_pos rfl,ho];rfl
def V7 (l:List Oper) (n:Nat) (ms:List Nat):Bool :=
 (ms.all fun m=>decide (m<n)&&match l[m]? with
  | some o=>o.guard.isNone&&(opR o.op).all fun t=>(List.range n).all fun j=>match (l.map (·.dst))[j]? with
    | some (some d)=>decide (d≠t)||(Zw m o).contains j
    | _=>true
  | none=>false)&&((List.range (ms.length-1)).all fun s=>match ms[s]?,ms[s+1]? with
   | some a,some b=>match l[b]? with | some o=>(Zw b o).contains a | none=>false
   | _,_=>false)&&(List.range ms.length).all fun s=>(List.range ms.length).all fun t=>decide (s=t)||decide (ms[s]? ≠ms[t]?)
def Z3 : List Oper->Nat->Oper
 | [],_=>default
 | o::_,0=>o
 | _::l,n+1=>Z3 l n
theorem U8 : ∀(l:List Oper) (n:Nat),Z3 l n=l.getD n default
 | [],n=>by simp [Z3]
 | o::l,0=>rfl
 | o::l,n+1=>by simp [Z3,U8 l n]
@[go_sem] theorem Zn4 {o:Oper} {l} :Z3 (o::l) 0=o:=rfl
@[go_sem] theorem Zry {o:Oper} {l n} :Z3 (o::l) (n+1)=Z3 l n:=rfl
@[go_sem] theorem Ztl {l:List Oper} :VQ [] l=l:=rfl
@[go_sem] theorem ZoU {m ms} {l:List Oper} :VQ (m::ms) l=VQ ms (Qo m l):=rfl
theorem XE {P:Program} {H:List Obj} {f azs} {a b:PV} {B:V->Prop} {t} (h:ACalls P f azs [] fun x H'=>x= .tup [.p a,.p b]/\H'= []) (k:B (.tup [.p a,.p b])) (ha:ZT 0 azs=true:=by rfl) :
  exq (fun y=>ACalls P f azs H (ZE (ZE (fun x H'=>x=y/\H'=H) ⟨⟩) ⟨⟩)) (ZE B t) :=
 ⟨.tup [.p a,.p b],(h.behind ha H).mono fun x H' hq=>by
  obtain ⟨y,H1,⟨rfl,rfl⟩,rfl,rfl⟩:=hq
  simp [shV,Zar,ZE],k⟩
def ptl (l:List Oper):List (Nat×V)->List V->List V
 | [],fr=>fr
 | (m,y)::dn,fr=>ptO (ptl l dn fr) (Z3 l m).dst y
theorem Vx (l:List Oper): ∀(dn:List (Nat×V)) (fr:List V),(ptl l dn fr).length=fr.length
 | [],_=>rfl
 | (m,y)::dn,fr=>by rw [ptl,Zka,Vx l dn fr]
theorem Zal (l:List Oper) {x:V} {t:Nat} : ∀(dn:List (Nat×V)) (fr:List V),(ptl l dn fr)[t]? =some x->(∃p,p∈dn/\(Z3 l p.1).dst=some t/\x=p.2/\t<fr.length)\/fr[t]? =some x
 | [],_,h=> .inr h
 | (m,y)::dn,fr,h=>by
  rcases Zli h with ⟨h1,h2,h3⟩ | ⟨_,h2⟩
  ·exact .inl ⟨(m,y),by simp,h1,h2,by rw [Vx] at h3;exact h3⟩
  ·rcases Zal l dn fr h2 with ⟨p,h3,h4⟩ | h3
   ·exact .inl ⟨p,by simp [h3],h4⟩
   ·exact .inr h3
theorem UK (l:List Oper) {R:List Nat} {f1 f2:List V} (hl:f1.length=f2.length) (h:Wz R f1 f2): ∀dn,Wz R (ptl l dn f1) (ptl l dn f2)
 | []=>h
 | (m,y)::dn=>fun t ht=>by
  have ih:=UK l hl h dn t ht
  have hl2:(ptl l dn f1).length=(ptl l dn f2).length:=by rw [Vx,Vx,hl]
  simp only [ptl]
  cases (Z3 l m).dst with
  | none=>exact ih
  | some d =>
   simp only [ptO,Wu,ZdD] at ih ⊢;rw [List.getElem?_set,List.getElem?_set]
   split
   ·rw [hl2]
   ·exact ih
def Wa (l:List Oper) (rem:List Nat):List Nat:=rem.filter fun m=>rem.all fun m'=> !(Zw m (Z3 l m)).contains m'
def Vs (P:Program) (H:List Obj) (l:List Oper):Nat->List Nat->List V->List Obj->(List V->List Obj->Prop)->Prop
 | 0,_,fr,L,K=>K fr L
 | n+1,rem,fr,L,K=> ∀m∈Wa l rem,∃y L',Zp P (Z3 l m) fr (H++L) (fun x H'=>x=y/\H'=H++L')/\Vs P H l n (rem.erase m) (ptO fr (Z3 l m).dst y) L' K
def Zzs (P:Program) (F:Nat->Prop) (H:List Obj) (l:List Oper) (ms:List Nat) (bs:List V) (K:List V->List Obj->Prop) (ds:List (Option Nat)) (fr vals:List V) (n:Nat) (ι0:List (Option Nat)) (w0:World) (listed:Array Bool) (a:Act) (w:World):Prop :=
 ∃(rem:List Nat) (dn:List (Nat×V)) (L:List Obj),rem.Nodup/\(∀m∈rem,m∈ms)/\(∀m∈ms,listed.getD m false=decide (m ∉ rem))/\(∀p∈dn,p.1∈ms/\p.1 ∉ rem)/\Vs P H l rem.length rem (ptl l dn bs) L K /\
  ∃ι ιL,ι.length=H.length/\Mid (Own F ιL) H ds fr vals n listed ι a w/\Good F H ι0 w0 (H++L) (ι++ιL) w /\
   ∀p∈dn,∀d,(Z3 l p.1).dst=some d->d<fr.length->RV F (H++L) (ι++ιL) w p.2 (a.tmps.getD d undef)
theorem Za4 {P:Program} {ops:Array Oper} {Q:Exit->Act->World->Prop} {F H fr vals} {n:Nat} {l:List Oper} {ms:List Nat} {K:List V->List Obj->Prop} (hol:ops.toList=l) (hB:Y1 ops n=true) (hvl:vals.length=n)
  (hms: ∀m∈ms,m<n/\ops[m]? =some (Z3 l m)/\(Z3 l m).guard=none/\vals[m]? =some .junk)
  (hrd: ∀m∈ms,∀t∈opR (Z3 l m).op,∀j,j<n->(ops.toList.map (·.dst))[j]? =some (some t)->j∈Zw m (Z3 l m))
  (hok: ∀(i:Nat) (o:Oper),i<n->i ∉ ms->ops[i]? =some o->Zgh P (ops.toList.map (·.dst)) (ZV ((ops.toList.map (·.dst)).take n) fr) H vals i o) {ι0 w0}
  (ht: ∀fr' L ι a w,K fr' L->Good F H ι0 w0 (H++L) ι w->Fr F (H++L) ι w fr' a->wpList P ops Q (ops.toList.drop n) a w) :
  ∀(u:Nat) (listed:Array Bool) (a:Act) (w:World),HeadInv .any ops n listed->((List.range n).filter fun i=> !listed.getD i false).length=u ->
   Zzs P F H l ms (ZN (ops.toList.map (·.dst)) vals (List.range n) (ZV ((ops.toList.map (·.dst)).take n) fr)) K (ops.toList.map (·.dst)) fr vals n ι0 w0 listed a w->wpAny P .any ops Q (u+(ops.size-n)) listed a w:=by
 simp only [Y1,Bool.and_eq_true,decide_eq_true_eq,Bool.or_eq_true] at hB;obtain ⟨⟨⟨⟨hn,hsc⟩,hea⟩,hap⟩,hseq⟩:=hB
 have hdl:n<=(ops.toList.map (·.dst)).length:=by simpa using hn
 -- the frame at late operations done, azs far azs is listed
 have frAt: ∀ {dn:List (Nat×V)} {L:List Obj} {listed:Array Bool} {ι ιL:List (Option Nat)} {a:Act} {w:World} (ls:List Nat),(∀j∈ls,j<n/\listed.getD j false=true)->Mid (Own F ιL) H (ops.toList.map (·.dst)) fr vals n listed ι a w ->
   (∀p∈dn,∀d,(Z3 l p.1).dst=some d->d<fr.length->RV F (H++L) (ι++ιL) w p.2 (a.tmps.getD d undef)) ->
   Fr F (H++L) (ι++ιL) w (ptl l dn (ZN (ops.toList.map (·.dst)) vals ls (ZV ((ops.toList.map (·.dst)).take n) fr))) a:=fun {dn L listed ι ιL a w} ls hls mid slot=>by
  obtain ⟨f1,f2,f3⟩:=mid.fr ls hls;refine ⟨by rw [Vx];exact f1,f2,fun t x hx=> ?_⟩;rcases Zal l dn _ hx with ⟨p,h1,h2,rfl,h4⟩ | h1
  ·exact slot p h1 t h2 (by rw [ZZ,ZP] at h4;exact h4)
  ·exact (f3 t x h1).widen
 intro u
 induction u with
 | zero =>
  intro listed a w inv hm mid
  have XZ: ∀i,i<n->listed.getD i false=true:=fun i hi=>by
   have h0:=List.eq_nil_of_length_eq_zero hm
   have:i ∉ (List.range n).filter fun i=> !listed.getD i false:=by rw [h0];simp
   simp only [List.mem_filter,List.mem_range,not_and,Bool.not_eq_true',Bool.not_eq_false] at this;exact this hi
  have hl:listed=Array.replicate n true++Array.replicate (ops.size-n) false:=by
   refine Array.ext (by simp [inv.size];omega) fun i h1 h2=> ?_
   by_cases hi:i<n
   ·have:=XZ i hi;rw [Array.getElem_append_left (by simpa using hi)];simp [h1] at this;simp [this]
   ·have:=inv.tail i (by omega) (by rw [<- inv.size];exact h1);rw [Array.getElem_append_right (by simp;omega)];simp [h1] at this;simp [this]
  obtain ⟨rem,dn,L,hnd,hrm,hst,hdn,hlt,ι,ιL,hιl,mid,gd,slot⟩:=mid
  have hs:rem= []:=by
   cases rem with
   | nil=>rfl
   | cons m r =>
    have h1:=hst m (hrm m (by simp));rw [XZ _ (hms m (hrm m (by simp))).1] at h1;simp at h1
  subst hs;have hw:=ht _ L (ι++ιL) a w hlt gd (frAt (List.range n) (fun j hj=>⟨List.mem_range.1 hj,XZ j (List.mem_range.1 hj)⟩) mid slot);have:=wpAny_of_seq (md:= .any) (Q':=Q) (ops.toList.drop n) n listed a w (fun j=>by simp [List.getElem?_drop]) (by rw [hl];simpa using hseq) hw;simpa using this
 | succ u ih =>
  intro listed a w inv hm mid
  have hun: ∃i,i<n/\listed.getD i false=false:=by
   cases hf:(List.range n).filter fun i=> !listed.getD i false with
   | nil=>rw [hf] at hm;simp at hm
   | cons i l =>
    have:i∈(List.range n).filter fun i=> !listed.getD i false:=by rw [hf];simp
    simp only [List.mem_filter,List.mem_range,Bool.not_eq_true'] at this;exact ⟨i,this⟩
  have hsz: ∀ {i},i<n->i<listed.size:=fun h=>by rw [inv.size];omega
  have hready:Region.ready .any ops listed≠ []:=by
   obtain ⟨i,hi,hu⟩:=hun
   have: ∃i,i<n/\listed.getD i false=false/\ ∀j,j<i->listed.getD j false=true:=by
    induction i using Nat.strongRecOn with
    | _ i ihh =>
     by_cases hex: ∃j,j<i/\listed.getD j false=false
     ·obtain ⟨j,hj,hju⟩:=hex;exact ihh j hj (by omega) hju
     ·exact ⟨i,hi,hu,fun j hj=>by
       cases hb:listed.getD j false with
       | true=>rfl
       | false=>exact absurd ⟨j,hj,hb⟩ hex⟩
   obtain ⟨i,hi,hu,hmin⟩:=this;intro h0
   have:i∈Region.ready .any ops listed:=by
    have hlt:i<ops.size:=by omega
    refine mem_ready.2 ⟨getD_in (hsz hi) hu,ops[i],by simp [hlt],fun e he hb=> ?_⟩;have h1:=List.all_eq_true.1 hea i (List.mem_range.2 hi);simp only [hlt,Array.getElem?_eq_getElem,Array.all_eq_true_iff_forall_mem] at h1;have:=h1 e he;simp [hb] at this;exact hmin _ this
   rw [h0] at this
   cases this
  rw [show u+1+(ops.size-n)=(u+(ops.size-n))+1 by omega];refine ⟨fun h0=>absurd h0 hready,fun i hi=> ?_⟩
  have hin:i<n:=by
   rcases hsc with h | ⟨hs,hc⟩
   ·obtain ⟨_,o,ho,_⟩:=mem_ready.1 hi;have:=(Array.getElem?_eq_some_iff.1 ho).1;omega
   ·rcases Nat.lt_or_ge i n with h | h
    ·exact h
    ·obtain ⟨k,hk,hu⟩:=hun
     by_cases hne:n<ops.size
     ·exact absurd hi (tail_waits hs hc hne inv _ k rfl hk (getD_in (hsz hk) hu) i h)
     ·obtain ⟨_,o,ho,_⟩:=mem_ready.1 hi;have:=(Array.getElem?_eq_some_iff.1 ho).1;omega
  obtain ⟨hiu,o,ho,XZ⟩:=mem_ready.1 hi
  have hds:(ops.toList.map (·.dst))[i]? =some o.dst:=by simp [ho]
  have hdeps: ∀j∈Zw i o,j<n/\listed.getD j false=true:=fun j hj=>by
   refine ⟨by have:=XD j hj;omega,?_⟩;simp [Zw] at hj;obtain ⟨e,⟨he,hb,_⟩,rfl⟩:=hj;exact XZ e he hb
  have hcount:((List.range n).filter fun k=> !(listed.setIfInBounds i true).getD k false).length=u:=by
   have e:((List.range n).filter fun k=> !(listed.setIfInBounds i true).getD k false)=((List.range n).filter fun k=> !listed.getD k false).filter (fun k=>k≠i):=by
    rw [List.filter_filter];refine List.filter_congr fun k hk=> ?_
    by_cases hki:k=i
    ·subst hki;simp [hsz hin]
    ·rw [getD_set_ne false (fun h=>hki h.symm)];simp [hki]
   rw [e]
   have hmem:i∈(List.range n).filter fun k=> !listed.getD k false:=by
    simp only [List.mem_filter,List.mem_range,Bool.not_eq_true'];exact ⟨hin,getD_both hiu⟩
   have hnd:((List.range n).filter fun k=> !listed.getD k false).Nodup:=List.nodup_range.filter _;have:=List.Nodup.erase_eq_filter hnd i
   have e2:(((List.range n).filter fun k=> !listed.getD k false).filter (fun k=>k≠i))=((List.range n).filter fun k=> !listed.getD k false).erase i:=by
    rw [this];refine List.filter_congr fun k _=> ?_
    by_cases h:k=i<;>simp [h,bne]
   rw [e2,List.length_erase_of_mem hmem,hm]
   rfl
  have next: ∀v w',Zzs P F H l ms (ZN (ops.toList.map (·.dst)) vals (List.range n) (ZV ((ops.toList.map (·.dst)).take n) fr)) K (ops.toList.map (·.dst)) fr vals n ι0 w0 (listed.setIfInBounds i true) (a.put o.dst v) w'->wpAny P .any ops Q (u+(ops.size-n)) (listed.setIfInBounds i true) (a.put o.dst v) w':=fun v w' h =>
   ih _ _ w' (inv.set hi hin) hcount h
  have hiu2:listed.getD i false=false:=getD_both hiu;obtain ⟨rem,dn,L,hnd,hrm,hst,hdn,hlt,ι,ιL,hιl,mid,gd,slot⟩:=mid
  -- a slot that this operation does not write
  have hoth: ∀ {e:Nat} {v:Value},o.dst≠some e->((a.put o.dst v).tmps).getD e undef=a.tmps.getD e undef:=fun {e v} hne=>by
   cases hdst:o.dst with
   | none=>rfl
   | some d =>
    have hne2:d≠e:=fun h=>hne (by rw [hdst,h]);simp [Act.put,Array.getD_eq_getD_getElem?,Array.getElem?_setIfInBounds_ne hne2]
  have hapart: ∀ {j e:Nat},j<n->j≠i->(ops.toList.map (·.dst))[j]? =some (some e)->o.dst≠some e:=fun {j e} hj hji hd h=>by
   have:=List.all_eq_true.1 (List.all_eq_true.1 hap i (List.mem_range.2 hin)) j (List.mem_range.2 hj);simp [hds,h,hd,Ne.symm hji] at this
  have hdm: ∀m∈ms,(ops.toList.map (·.dst))[m]? =some (Z3 l m).dst:=fun m hm=>by
   have:=(hms m hm).2.1;simp [this]
  unfold wpOp;simp only [ho]
  by_cases him:i∈ms
  ·-- a late one
   obtain ⟨_,hom,hgm,hvm⟩:=hms i him;rw [hom] at ho;simp at ho;subst ho
   have hir:i∈rem:=by
    have h1:=hst i him;rw [hiu2] at h1;simpa using h1.symm
   have hrl:i∈Wa l rem:=by
    rw [Wa,List.mem_filter];refine ⟨hir,List.all_eq_true.2 fun m' hm'=> ?_⟩
    cases hc:(Zw i (Z3 l i)).contains m' with
    | false=>rfl
    | true =>
     have h3:=(hdeps m' (by simpa using hc)).2;rw [hst m' (hrm m' hm')] at h3;simp at h3;exact absurd hm' h3
   obtain ⟨k,hk⟩: ∃k,rem.length=k+1:=⟨rem.length-1,by have:=List.length_pos_of_mem hir;omega⟩;rw [hk] at hlt;obtain ⟨y,L',hstep,hlt'⟩:=hlt i hrl
   let ls:=(List.range n).filter fun j=>listed.getD j false
   have hls: ∀j∈ls,j<n/\listed.getD j false=true:=fun j hj=>by simpa [ls] using hj
   have hfr:=frAt (dn:=dn) (L:=L) ls hls mid slot
   have hag:Wz (opR (Z3 l i).op) (ZN (ops.toList.map (·.dst)) vals ls (ZV ((ops.toList.map (·.dst)).take n) fr)) (ZN (ops.toList.map (·.dst)) vals (List.range n) (ZV ((ops.toList.map (·.dst)).take n) fr)) :=
    Vz hap hdl hvl (fun j hj=>(hls j hj).1) fun t ht j hj hd=>by
     have:=hdeps j (hrd i him t ht j hj hd);simpa [ls] using this
   have hl:=(WF (UK l (by rw [ZZ,ZZ]) hag dn)).2 hstep
   have hw:Region.wanted (Z3 l i) (yielded ops a.tmps)=true:=by simp [Region.wanted,hgm]
   rw [if_pos hw];refine .inl (YK hl gd.rel hfr fun x H' ι' v w' hk g r=> ?_);obtain ⟨hx,rfl⟩:=hk;subst hx
   obtain ⟨ι1,ιL',rfl,hl1⟩: ∃ι1 ιL',ι'=ι1++ιL'/\ι1.length=H.length:=⟨ι'.take H.length,ι'.drop H.length,(List.take_append_drop _ _).symm,by
    have:=g.rel.len;rw [List.length_append] at this
    simp;omega⟩
   have trans: ∀ {x:V} {v:Value},RV (Own F ιL) H ι w x v->RV (Own F ιL') H ι1 w' x v:=fun {x v} h=>(g.rv h.widen).narrow hl1 h.refB
   have ZN: ∀m∈ms,(listed.setIfInBounds i true).getD m false=decide (m ∉ rem.erase i):=fun m hm=>by
    by_cases e:m=i
    ·subst e;simp [hsz hin,hnd.not_mem_erase]
    ·rw [getD_set_ne false (fun h=>e h.symm),hst m hm];refine decide_eq_decide.2 (not_congr ?_);rw [List.mem_erase_of_ne e]
   have hpi: ∀p∈dn,p.1≠i:=fun p hp e=>(hdn p hp).2 (e ▸ hir);refine next v w' ⟨rem.erase i,(i,x)::dn,L',hnd.erase i,fun m hm=>hrm m (List.mem_of_mem_erase hm),ZN,fun p hp=> ?_,?_,ι1,ιL',hl1,⟨g.rel.front hl1 mid.rel.refH,?_,?_,fun t z ht' hnt=> ?_,fun j e z hj hlj hd hz hlt=> ?_⟩,gd.trans g,fun p hp d hd hlt=> ?_⟩
   ·rcases List.mem_cons.1 hp with rfl | hp
    ·exact ⟨him,hnd.not_mem_erase⟩
    ·exact ⟨(hdn p hp).1,fun h=>(hdn p hp).2 (List.mem_of_mem_erase h)⟩
   ·have:(rem.erase i).length=k:=by rw [List.length_erase_of_mem hir];omega
    rw [this];exact hlt'
   ·cases (Z3 l i).dst<;>simp [Act.put,mid.size]
   ·cases (Z3 l i).dst<;>exact mid.defers
   ·rw [hoth (fun e=>hnt (by
     rw [List.mem_iff_getElem?]
     exact ⟨i,by rw [List.getElem?_take_of_lt hin,hds,e]⟩))]
    exact trans (mid.old t z ht' hnt)
   ·by_cases hij:j=i
    ·subst hij;rw [hvm] at hz;simp at hz;subst hz;exact .junk _
    ·have hl':listed.getD j false=true:=by rwa [getD_set_ne false (fun h=>hij h.symm)] at hlj
     rw [hoth (hapart hj hij hd)];exact trans (mid.new j e z hj hl' hd hz hlt)
   ·rcases List.mem_cons.1 hp with rfl | hp
    ·simp only at hd;rw [hd]
     have:d<a.tmps.size:=by rw [mid.size];exact hlt
     have e2:((a.put (some d) v).tmps).getD d undef=v:=by simp [Act.put,Array.getD,this]
     rw [e2];exact r
    ·have hpm:=(hdn p hp).1;rw [hoth (hapart (hms _ hpm).1 (hpi p hp) (by rw [hdm _ hpm,hd]))];exact g.rv (slot p hp d hd hlt)
  ·-- another
   obtain ⟨z,hz,hok'⟩:=hok i o hin him ho;have hfr:=mid.fr _ hdeps
   have next': ∀ι' v w',Good (Own F ιL) H ι w H ι' w'->RV (Own F ιL) H ι' w' z v->wpAny P .any ops Q (u+(ops.size-n)) (listed.setIfInBounds i true) (a.put o.dst v) w':=fun ι' v w' g r=>by
    have g2:=Good.front hιl gd.rel g rfl;refine next v w' ⟨rem,dn,L,hnd,hrm,fun m hm=> ?_,hdn,hlt,ι',ιL,g.rel.len,mid.put hap g hin hds hz r,gd.trans g2,fun p hp d hd hlt=> ?_⟩
    ·rw [getD_set_ne false (fun (e:i=m)=>him (e ▸ hm))];exact hst m hm
    ·have hpm:=(hdn p hp).1;rw [hoth (hapart (hms _ hpm).1 (fun h=>him (h ▸ hpm)) (by rw [hdm _ hpm,hd]))];exact g2.rv (slot p hp d hd hlt)
   have run:Zr P o (ZN (ops.toList.map (·.dst)) vals (Zw i o) (ZV ((ops.toList.map (·.dst)).take n) fr)) H (fun x H'=>x=z/\H'=H)->o.wp P a w (wpAny P .any ops Q (u+(ops.size-n)) (listed.setIfInBounds i true)) Q:=fun h =>
    U2 h mid.rel hfr fun x H' ι' v w' hk g r=>by
     obtain ⟨rfl,rfl⟩:=hk;exact next' ι' v w' g r
   split at hok'
   ·rename_i hg
    have hw:Region.wanted o (yielded ops a.tmps)=true:=by simp [Region.wanted,hg]
    rw [if_pos hw];exact .inl (run hok')
   ·rename_i j b hg;rcases hok' with ⟨c,hc,h1,h2⟩ | ⟨hc,hyt⟩
    rotate_left
    ·have hyl:=Xo hfr hc
     have hw: ¬(Region.wanted o (yielded ops a.tmps)=true):=by simp [Region.wanted,hg,hyl]
     rw [if_neg hw];exact next' ι undef w (Good.refl mid.rel) (by rw [hyt];exact XK)
    have hyl:=XN hfr hc
    by_cases hcb:c=b
    ·have hw:Region.wanted o (yielded ops a.tmps)=true:=by simp [Region.wanted,hg,hyl,hcb]
     rw [if_pos hw];exact .inl (run (h1 hcb))
    ·have hw: ¬(Region.wanted o (yielded ops a.tmps)=true):=by simp [Region.wanted,hg,hyl,hcb]
     rw [if_neg hw];exact next' ι undef w (Good.refl mid.rel) (by rw [h2 hcb];exact XK)
def K0 (l : List Oper) (n : Nat) (ms : List Nat) : Bool :=
  (ms.all fun m => decide (m < n) && decide (m < l.length) && ((Z3 l m).guard.isNone && (opR (Z3 l m).op).all fun t => (List.range n).all fun j => match (l.map (·.dst))[j]? with
        | some (some d) => decide (d ≠ t) || (Zw m (Z3 l m)).contains j
        | _ => true)) && decide ms.Nodup
theorem ZO (ms:List Nat) {P:Program} {id:Nat} {l:List Oper} {fr:List V} {H:List Obj} {Q:Exit->List V->List Obj->Prop} {t} (n:Nat) (hm:P.follows .mixedOrders=true) (hB:Y1 (List.toArray l) n=true) (hR:Qb (List.toArray (VQ ms l)) n=true) (hL:K0 l n ms=true) (hfl:fr.length<=1000000)
  (h:hs P (l.map (·.dst)) H (ZE (fun fr'=>Vs P H l ms.length ms (idF fr') [] (ZE (fun fr2 L=>YH P (l.map (·.dst)) (l.drop n) fr2 (H++L) (ZE (Q .normal) ⟨⟩)) ⟨⟩)) ⟨⟩) ((VQ ms l).take n) (idF fr)) :
  AWP P (.region id (ZE (List.toArray l) t) true) fr H Q:=fun F ι a w hr hf=>by
 refine wp_region_any hm ?_;have hB':=hB;simp only [Y1,Bool.and_eq_true,decide_eq_true_eq] at hB';obtain ⟨⟨⟨⟨hn,_⟩,_⟩,hap⟩,_⟩:=hB'
 have hn2:n<=l.length:=by simpa using hn
 simp only [K0,Bool.and_eq_true,List.all_eq_true,decide_eq_true_eq] at hL;obtain ⟨hL1,hL3⟩:=hL;have hds:(VQ ms l).map (·.dst)=l.map (·.dst):=JI ms l;have hh:=ZhP (P:=P) (H:=H) (ops:=List.toArray (VQ ms l)) (n:=n) (fr:=fr) (K:=fun fr'=>Vs P H l ms.length ms fr' [] (fun fr2 L=>YH P (l.map (·.dst)) (l.drop n) fr2 (H++L) (Q .normal))) (by simpa [Jk] using hn2) (by simpa [hds] using hap) hR _ 0 [] (Nat.zero_le _) rfl (by simp;rfl) (by simpa [hds,ZN,ZE,idF] using h);obtain ⟨ys,h1,⟨h2a,h2b⟩,h3⟩:=Uf _ 0 [] rfl hh;simp only [List.nil_append,hds] at h2a h2b h3
 have hlen:ys.length=n:=h2a;have g0:=Good.drew hr;have hf0:=g0.fr hf;have hget: ∀k,k<n->((VQ ms l).take n)[k]? =(VQ ms l)[k]? :=fun k hk=>List.getElem?_take_of_lt hk;have hjl:(ZV ((l.map (·.dst)).take n) fr).length=fr.length:=ZP _ _
 have hlat: ∀m∈ms,m<n/\l[m]? =some (Z3 l m)/\(Z3 l m).guard=none:=fun m hm=>by
  obtain ⟨⟨h4,h5⟩,h6,_⟩:=hL1 m hm;exact ⟨h4,by rw [U8,List.getD_eq_getElem?_getD,List.getElem?_eq_getElem h5];rfl,by simpa using h6⟩
 have hvm: ∀m∈ms,ys[m]? =some .junk:=fun m hm=>by
  obtain ⟨q1,q2,q3⟩:=hlat m hm;obtain ⟨z,hy,hk⟩:=h3 m (VK (Z3 l m)) (by rw [hget _ q1];exact JF ms l _ _ hm q2);rw [Nat.zero_add] at hy;have e1:(VK (Z3 l m)).guard=none:=q3;rw [e1] at hk;simp only [VK,Zr,Zp,Xp,Xs,aop,ZF] at hk
  have hk2:gt (ZN (l.map (·.dst)) ys (Zw (0+m) { Z3 l m with op:= .move (.tmp 1000000) }) (ZV ((l.map (·.dst)).take n) fr)) 1000000=z:=by simpa [ev] using hk
  rw [ZdJ (by rw [ZZ,hjl];exact hfl)] at hk2;rw [hy,hk2]
 have hfin:ZN (l.map (·.dst)) ys (List.range n) (ZV ((l.map (·.dst)).take n) fr)=ZN (l.map (·.dst)) ys (List.range n) fr:=Ja hap (by simpa using hn2) hlen
 have:=Za4 (Q:=fun e a' w'=> ∃fr' H' ι',Q e fr' H'/\Good F H ι w H' ι' w'/\Fr F H' ι' w' fr' a') (F:=F) (fr:=fr) (vals:=ys) (P:=P) (H:=H) (l:=l) (ms:=ms) (K:=fun fr2 L=>YH P (l.map (·.dst)) (l.drop n) fr2 (H++L) (Q .normal)) (ops:=List.toArray l) (ι0:=ι) (w0:= { w with drawn:=w.drawn+1 }) rfl hB hlen
  (fun m hm=>⟨(hlat m hm).1,by simpa using (hlat m hm).2.1,(hlat m hm).2.2,hvm m hm⟩)
  (fun m hm t ht j hj hd=>by
   obtain ⟨_,_,h5⟩:=hL1 m hm;have h6:=h5 t ht j (List.mem_range.2 hj);simp only at hd;rw [hd] at h6
   simpa using h6)
  (fun i o hi him ho=>by
   have:=h3 i o (by
    rw [hget i hi,Uh]
    ·simpa using ho
    ·exact him)
   rwa [Nat.zero_add] at this)
  (fun fr2 L ι1 a1 w1 k1 g1 f1=>Xe (P:=P) (ops:=List.toArray l) _ _ (H++L) _ k1 F ι1 a1 w1 g1.rel f1 fun fr' H' ι' a' w' k g f=>⟨fr',H',ι',k,g0.trans (g1.trans g),f⟩)
  n (Array.replicate l.length false) a { w with drawn:=w.drawn+1 }
  ⟨by simp,fun j oj _ hl=>(by rw [getD_replicate_false] at hl;cases hl),fun t _ ht=>getD_in (by simpa using ht) (getD_replicate_false _ _)⟩
  (by
   rw [List.filter_eq_self.2 (fun i _=>by rw [getD_replicate_false];rfl)]
   simp)
  ⟨ms,[],[],hL3,fun m hm=>hm,fun m hm=>by rw [getD_replicate_false];simp [hm],fun p hp=>(by cases hp),by
    simp only [ptl];rw [hfin]
    exact h2b,ι,[],hr.len,by
   have g1:Rel F (H++ []) (ι++ []) { w with drawn:=w.drawn+1 } :=by simpa using g0.rel
   have r1:=g1.front hr.len hr.refH
   exact ⟨r1,hf0.1,hf0.2.1,fun t x ht _=>RV.narrow (L:= []) hr.len (by simpa using hf0.2.2 t x ht) (hf0.2.2 t x ht).refB,fun j d x _ hl=>by rw [getD_replicate_false] at hl;cases hl⟩,
   by simpa using Good.refl g0.rel,fun p hp=>(by cases hp)⟩
 simp only [List.size_toArray] at this;simp only [ZE,List.size_toArray];rwa [show n+(l.length-n)=l.length by omega] at this
theorem Xj {P H l rem fr L K} (h:K fr L):Vs P H l 0 rem fr L K:=h
theorem Zea {P H l n rem fr L K} (rs:List Nat) (hr:Wa l rem=rs) (h: ∀m∈rs,∃y L',Zp P (Z3 l m) fr (H++L) (fun x H'=>x=y/\H'=H++L')/\Vs P H l n (rem.erase m) (ptO fr (Z3 l m).dst y) L' K):Vs P H l (n+1) rem fr L K:=fun m hm=>h m (hr ▸ hm)
theorem Zq {P H l n rem fr L K} (m:Nat) (y:V) (L':List Obj) (hr:Wa l rem= [m]) (h:Zp P (Z3 l m) fr (H++L) (fun x H'=>x=y/\H'=H++L')) (k:Vs P H l n (rem.erase m) (ptO fr (Z3 l m).dst y) L' K):Vs P H l (n+1) rem fr L K :=
 Zea [m] hr fun m' hm'=>by
  rw [List.mem_singleton] at hm';subst hm';exact ⟨y,L',h,k⟩
theorem Y2 {P H l n rem fr L K} (m m2:Nat) (y:V) (L':List Obj) (y2:V) (L2:List Obj) (hr:Wa l rem= [m,m2]) (h:Zp P (Z3 l m) fr (H++L) (fun x H'=>x=y/\H'=H++L')) (h2:Zp P (Z3 l m2) fr (H++L) (fun x H'=>x=y2/\H'=H++L2))
  (k:Vs P H l n (rem.erase m) (ptO fr (Z3 l m).dst y) L' K) (k2:Vs P H l n (rem.erase m2) (ptO fr (Z3 l m2).dst y2) L2 K):Vs P H l (n+1) rem fr L K :=
 Zea [m,m2] hr fun m' hm'=>by
  rcases List.mem_cons.1 hm' with rfl | hm'
  ·exact ⟨y,L',h,k⟩
  ·rw [List.mem_singleton] at hm';subst hm';exact ⟨y2,L2,h2,k2⟩
def W5 : Op->Bool
 | .move _=>true
 | .assign _=>true
 | .binOp _ _ _ _ _=>true
 | .unOp _ _ _=>true
 | .pick _ _ _=>true
 | _=>false
theorem Vp {P:Program} {o:Oper} (h:W5 o.op=true) {fr:List V} {H H2:List Obj} {y:V} (k:Zr P o fr H (fun x H'=>x=y/\H'=H)):Zr P o fr H2 (fun x H'=>x=y/\H'=H2):=by
 have key: ∀(f:List Obj->Option V),(∀A B,f A=f B)->(match (match f H with | some x=>some (x,H) | none=>(none:Option (V×List Obj))) with | some (x,H')=>x=y/\H'=H | none=>False)->(match (match f H2 with | some x=>some (x,H2) | none=>(none:Option (V×List Obj))) with | some (x,H')=>x=y/\H'=H2 | none=>False):=fun f hf hk=>by
  rw [hf H2 H]
  cases hfh:f H with
  | none=>rw [hfh] at hk;exact hk
  | some x=>rw [hfh] at hk;exact ⟨hk.1,rfl⟩
 unfold Zr Zp at k ⊢
 cases hop:o.op with
 | move x=>rw [hop] at k;simp only [Xs,aop,ZF,Xp] at k ⊢;first | exact ⟨k.1,rfl⟩ | exact ⟨k.1,trivial⟩
 | assign x=>rw [hop] at k;simp only [Xs,aop,ZF,Xp] at k ⊢;first | exact ⟨k.1,rfl⟩ | exact ⟨k.1,trivial⟩
 | binOp a b c d e =>
  rw [hop] at k;simp only [Xs,aop,ZF,Xp,Wg] at k ⊢
  cases hb:Yf P a b (ev fr c) (ev fr d) with
  | none=>rw [hb] at k;simp at k
  | some z=>rw [hb] at k;simp at k ⊢;exact k
 | unOp a b c =>
  rw [hop] at k;simp only [Xs,aop,ZF,Xp,Wg] at k ⊢
  cases hb:aun a (ev fr c) with
  | none=>rw [hb] at k;simp at k
  | some z=>rw [hb] at k;simp at k ⊢;exact k
 | pick c x z =>
  rw [hop] at k;simp only [Xs,aop,ZF,Xp,Wg] at k ⊢
  cases hb:asB (ev fr c) with
  | none=>rw [hb] at k;simp at k
  | some z=>rw [hb] at k;simp at k ⊢;exact k
 | _=>rw [hop] at h;cases h
theorem Zau {P:Program} {ds:List (Option Nat)} {fr vals:List V} {H H2:List Obj} {i:Nat} {o:Oper} (h:W5 o.op=true) (k:Zgh P ds fr H vals i o):Zgh P ds fr H2 vals i o:=by
 obtain ⟨y,h1,h2⟩:=k;refine ⟨y,h1,?_⟩
 split at h2
 ·exact Vp h h2
 ·rcases h2 with ⟨c,q1,q2,q3⟩ | q
  ·exact .inl ⟨c,q1,fun e=>Vp h (q2 e),q3⟩
  ·exact .inr q
def QC (l:List Oper):Nat->Nat->Nat->Bool
 | 0,_,_=>false
 | f+1,i,m=>(Zw m (Z3 l m)).any fun j=>decide (j=i)||QC l f i j
theorem WT {l:List Oper} {ops:Array Oper} (hol:ops.toList=l) {n:Nat} {listed:Array Bool} (inv:HeadInv .any ops n listed): ∀(f i m:Nat),m<l.length->QC l f i m=true->(∀j∈Zw m (Z3 l m),listed.getD j false=true)->listed.getD i false=true
 | 0,_,_,_,h,_=>by cases h
 | f+1,i,m,hm,h,hd=>by
  rw [QC,List.any_eq_true] at h;obtain ⟨j,hj,h⟩:=h;rw [Bool.or_eq_true] at h;rcases h with h | h
  ·rw [<- of_decide_eq_true h];exact hd j hj
  ·have hjm:j<m:=XD j hj
   have hjl:j<l.length:=by omega
   refine WT hol inv f i j hjl h fun k hk=> ?_
   have ho:ops[j]? =some (Z3 l j):=by
    rw [<- Array.getElem?_toList,hol,U8,List.getD_eq_getElem?_getD,List.getElem?_eq_getElem hjl];rfl
   simp [Zw] at hk;obtain ⟨e,⟨he,hb,_⟩,rfl⟩:=hk;exact inv.closed j _ ho (hd j hj) e he hb
def Zao (ko:List Nat) (x:V):Prop:= ∃o∈ko,(∃off,x= .ptr o off)\/ ∃off n,x= .sl o off n n
theorem ZfR {ko:List Nat} {o off} (h:o∈ko):Zao ko (.ptr o off):=⟨o,h,.inl ⟨off,rfl⟩⟩
theorem Zgz {ko:List Nat} {o off n} (h:o∈ko):Zao ko (.sl o off n n):=⟨o,h,.inr ⟨off,n,rfl⟩⟩
def Zq4 (ds:List (Option Nat)) (frj vals:List V) (ko:List Nat) (i:Nat) (o:Oper):Prop:=o.guard=none/\ ∃p,((∃u,o.op= .load u (.tmp p))\/(∃s f,o.op= .fieldAddr s (.tmp p) f)\/(∃t q,o.op= .indexAddr t (.tmp p) q)\/o.op= .nilCheck (.tmp p))/\Zao ko (gt (ZN ds vals (Zw i o) frj) p)
theorem ZkV {P:Program} {ds:List (Option Nat)} {fr vals:List V} {H L:List Obj} {ko:List Nat} {i:Nat} {o:Oper} (hk:Zq4 ds fr vals ko i o) (h: ∀k∈ko,oat L k=oat H k) (k:Zgh P ds fr H vals i o):Zgh P ds fr L vals i o:=by
 obtain ⟨hg,p,hop,o1,ho1,hp⟩:=hk;replace h:=h o1 ho1;obtain ⟨y,h1,h2⟩:=k;refine ⟨y,h1,?_⟩;rw [hg] at h2 ⊢;simp only at h2 ⊢;unfold Zr Zp at h2 ⊢;generalize hX:gt (ZN ds vals (Zw i o) fr) p=X at hp;rcases hop with ⟨u,hop⟩ | ⟨s,f,hop⟩ | ⟨t,q,hop⟩ | hop
 ·have hl:Vq P L u X=Vq P H u X:=by
   rcases hp with ⟨off,rfl⟩ | ⟨off,n,rfl⟩
   ·simp only [Vq,YR,h]
   ·rfl
  rw [hop] at h2 ⊢;simp only [Xs,aop,ZF,Xp,ev,hX,hl] at h2 ⊢
  cases hl:Vq P H u X with
  | none=>rw [hl] at h2;simp [Wg] at h2
  | some z=>rw [hl] at h2;exact ⟨h2.1,rfl⟩
 ·have hal:Yd L X=Yd H X:=by
   rcases hp with ⟨off,rfl⟩ | ⟨off,n,rfl⟩
   ·show (match oat L o1 with | .cells _=>true | _=>false)=(match oat H o1 with | .cells _=>true | _=>false);rw [h]
   ·rfl
  have ha:Vo P L s f X=Vo P H s f X:=by unfold Vo;rw [hal]
  rw [hop] at h2 ⊢;simp only [Xs,aop,ZF,Xp,ev,hX,ha] at h2 ⊢
  cases hl:Vo P H s f X with
  | none=>rw [hl] at h2;simp [Wg] at h2
  | some z=>rw [hl] at h2;exact ⟨h2.1,rfl⟩
 ·obtain ⟨I,hI⟩: ∃I,I=ev (ZN ds vals (Zw i o) fr) q:=⟨_,rfl⟩
  have ha:Ww P L t X I=Ww P H t X I:=by
   have hal:Yd L X=Yd H X:=by
    rcases hp with ⟨off,rfl⟩ | ⟨off,n,rfl⟩
    ·show (match oat L o1 with | .cells _=>true | _=>false)=(match oat H o1 with | .cells _=>true | _=>false);rw [h]
    ·rfl
   rcases hp with ⟨off,rfl⟩ | ⟨off,n,rfl⟩
   ·unfold Ww;rw [hal]
   ·unfold Ww;simp only [h,hal]
  rw [hop] at h2 ⊢;have hx:evx (ZN ds vals (Zw i o) fr) (.tmp p)=X:=hX;simp only [Xs,aop,ZF,Xp,hx,<- hI,ha] at h2 ⊢
  cases hz:Ww P H t X I with
  | none=>rw [hz] at h2;simp [Wg] at h2
  | some z=>rw [hz] at h2;exact ⟨h2.1,rfl⟩
 ·have hal:Yd L X=Yd H X:=by
   rcases hp with ⟨off,rfl⟩ | ⟨off,n,rfl⟩
   ·show (match oat L o1 with | .cells _=>true | _=>false)=(match oat H o1 with | .cells _=>true | _=>false);rw [h]
   ·rfl
  rw [hop] at h2 ⊢;simp only [Xs,aop,ZF,Xp,ev,hX,hal] at h2 ⊢
  cases hl:(Yd H X||Zr6 X) with
  | false=>rw [hl] at h2;simp [Wg] at h2
  | true=>rw [hl] at h2;simp only [if_true] at h2 ⊢;exact ⟨h2.1,trivial⟩
def OpX (P:Program) (o:Oper) (fr:List V) (H:List Obj) (B:V->List Obj->Prop):Prop :=
 ∀F ι a w,Rel F H ι w->Fr F H ι w fr a-> ∃y H' nx v ι' w',B y H'/\(execOp a.eval o).run P w= .ok nx w'/\(nx= .value v\/(nx= .skip/\v=undef))/\Good F H ι w H' ι' w'/\RV F H' ι' w' y v
def stX (P:Program) (o:Oper) (fr:List V) (H:List Obj) (R:V->List Obj->Prop):Prop:=Zp P o fr H R\/ ∀f2,Wz (opR o.op) fr f2->OpX P o f2 H R
theorem Zek {P:Program} {o:Oper} {f1 f2:List V} {H:List Obj} {R:V->List Obj->Prop} (h:Wz (opR o.op) f1 f2) (k:stX P o f2 H R):stX P o f1 H R :=
 k.imp (WF h).2 fun k f3 h3=>k f3 fun t ht=>(h t ht).symm.trans (h3 t ht)
theorem Zou {P:Program} {o:Oper} {fr:List V} {H:List Obj} {K:V->List Obj->Prop} (h:stX P o fr H K) {F ι a w} (hr:Rel F H ι w) (hf:Fr F H ι w fr a) {next:Act->World->Prop} {Q:Exit->Act->World->Prop}
  (hn: ∀x H' ι' v w',K x H'->Good F H ι w H' ι' w'->RV F H' ι' w' x v->next (a.put o.dst v) w'):o.wp P a w next Q:=by
 rcases h with h | h
 ·exact YK h hr hf hn
 ·obtain ⟨x,H',nx,v,ι',w',k,e,e2,g,r⟩:=h fr (fun _ _=>rfl) F ι a w hr hf;unfold Oper.wp;rw [e];rcases e2 with rfl | ⟨rfl,rfl⟩
  ·exact hn x H' ι' v w' k g r
  ·exact hn x H' ι' undef w' k g r
def Zf0 (P:Program) (ko:List Nat) (l:List Oper):Nat->List Nat->List V->List Obj->(List V->List Obj->Prop)->Prop
 | 0,_,fr,H,K=>K fr H
 | n+1,rem,fr,H,K=> ∀m∈Wa l rem,∃R:V->List Obj->Prop,stX P (Z3 l m) fr H R/\ ∀y H',R y H'->(∀k∈ko,oat H' k=oat H k)/\Zf0 P ko l n (rem.erase m) (ptO fr (Z3 l m).dst y) H' K
def Zyu (P:Program) (ko:List Nat) (F:Nat->Prop) (H:List Obj) (l:List Oper) (ms:List Nat) (bs:List V) (K:List V->List Obj->Prop) (ds:List (Option Nat)) (fr vals:List V) (n:Nat) (ι0:List (Option Nat)) (w0:World) (listed:Array Bool) (a:Act) (w:World):Prop :=
 ∃(rem:List Nat) (dn:List (Nat×V)) (L:List Obj),(((∀m∈ms,m∈rem)->L=H)/\(∀k∈ko,oat L k=oat H k))/\rem.Nodup/\(∀m∈rem,m∈ms)/\(∀m∈ms,listed.getD m false=decide (m ∉ rem))/\(∀p∈dn,p.1∈ms/\p.1 ∉ rem)/\Zf0 P ko l rem.length rem (ptl l dn bs) L K /\
  ∃ι,Mid F L ds fr vals n listed ι a w/\Good F H ι0 w0 L ι w /\
   ∀p∈dn,∀d,(Z3 l p.1).dst=some d->d<fr.length->RV F L ι w p.2 (a.tmps.getD d undef)
theorem ZaJ {P:Program} {ko:List Nat} {ops:Array Oper} {Q:Exit->Act->World->Prop} {F H fr vals} {n:Nat} {l:List Oper} {ms:List Nat} {K:List V->List Obj->Prop} (hol:ops.toList=l) (hB:Y1 ops n=true) (hvl:vals.length=n)
  (hms: ∀m∈ms,m<n/\ops[m]? =some (Z3 l m)/\(Z3 l m).guard=none/\vals[m]? =some .junk)
  (hrd: ∀m∈ms,∀t∈opR (Z3 l m).op,∀j,j<n->(ops.toList.map (·.dst))[j]? =some (some t)->j∈Zw m (Z3 l m))
  (hev: ∀i,i<n->i ∉ ms->(W5 (Z3 l i).op=true\/ ∀m∈ms,QC l n i m=true)\/Zq4 (ops.toList.map (·.dst)) (ZV ((ops.toList.map (·.dst)).take n) fr) vals ko i (Z3 l i))
  (hok: ∀(i:Nat) (o:Oper),i<n->i ∉ ms->ops[i]? =some o->Zgh P (ops.toList.map (·.dst)) (ZV ((ops.toList.map (·.dst)).take n) fr) H vals i o) {ι0 w0}
  (ht: ∀fr' L ι a w,K fr' L->Good F H ι0 w0 L ι w->Fr F L ι w fr' a->wpList P ops Q (ops.toList.drop n) a w) :
  ∀(u:Nat) (listed:Array Bool) (a:Act) (w:World),HeadInv .any ops n listed->((List.range n).filter fun i=> !listed.getD i false).length=u ->
   Zyu P ko F H l ms (ZN (ops.toList.map (·.dst)) vals (List.range n) (ZV ((ops.toList.map (·.dst)).take n) fr)) K (ops.toList.map (·.dst)) fr vals n ι0 w0 listed a w->wpAny P .any ops Q (u+(ops.size-n)) listed a w:=by
 simp only [Y1,Bool.and_eq_true,decide_eq_true_eq,Bool.or_eq_true] at hB;obtain ⟨⟨⟨⟨hn,hsc⟩,hea⟩,hap⟩,hseq⟩:=hB
 have hdl:n<=(ops.toList.map (·.dst)).length:=by simpa using hn
 -- the frame at late operations done, azs far azs is listed
 have frAt: ∀ {dn:List (Nat×V)} {L:List Obj} {listed:Array Bool} {ι:List (Option Nat)} {a:Act} {w:World} (ls:List Nat),(∀j∈ls,j<n/\listed.getD j false=true)->Mid F L (ops.toList.map (·.dst)) fr vals n listed ι a w ->
   (∀p∈dn,∀d,(Z3 l p.1).dst=some d->d<fr.length->RV F L ι w p.2 (a.tmps.getD d undef)) ->
   Fr F L ι w (ptl l dn (ZN (ops.toList.map (·.dst)) vals ls (ZV ((ops.toList.map (·.dst)).take n) fr))) a:=fun {dn L listed ι a w} ls hls mid slot=>by
  obtain ⟨f1,f2,f3⟩:=mid.fr ls hls;refine ⟨by rw [Vx];exact f1,f2,fun t x hx=> ?_⟩;rcases Zal l dn _ hx with ⟨p,h1,h2,rfl,h4⟩ | h1
  ·exact slot p h1 t h2 (by rw [ZZ,ZP] at h4;exact h4)
  ·exact f3 t x h1
 intro u
 induction u with
 | zero =>
  intro listed a w inv hm mid
  have XZ: ∀i,i<n->listed.getD i false=true:=fun i hi=>by
   have h0:=List.eq_nil_of_length_eq_zero hm
   have:i ∉ (List.range n).filter fun i=> !listed.getD i false:=by rw [h0];simp
   simp only [List.mem_filter,List.mem_range,not_and,Bool.not_eq_true',Bool.not_eq_false] at this;exact this hi
  have hl:listed=Array.replicate n true++Array.replicate (ops.size-n) false:=by
   refine Array.ext (by simp [inv.size];omega) fun i h1 h2=> ?_
   by_cases hi:i<n
   ·have:=XZ i hi;rw [Array.getElem_append_left (by simpa using hi)];simp [h1] at this;simp [this]
   ·have:=inv.tail i (by omega) (by rw [<- inv.size];exact h1);rw [Array.getElem_append_right (by simp;omega)];simp [h1] at this;simp [this]
  obtain ⟨rem,dn,L,⟨hLH,hko⟩,hnd,hrm,hst,hdn,hlt,ι,mid,gd,slot⟩:=mid
  have hs:rem= []:=by
   cases rem with
   | nil=>rfl
   | cons m r =>
    have h1:=hst m (hrm m (by simp));rw [XZ _ (hms m (hrm m (by simp))).1] at h1;simp at h1
  subst hs;have hw:=ht _ L ι a w hlt gd (frAt (List.range n) (fun j hj=>⟨List.mem_range.1 hj,XZ j (List.mem_range.1 hj)⟩) mid slot);have:=wpAny_of_seq (md:= .any) (Q':=Q) (ops.toList.drop n) n listed a w (fun j=>by simp [List.getElem?_drop]) (by rw [hl];simpa using hseq) hw;simpa using this
 | succ u ih =>
  intro listed a w inv hm mid
  have hun: ∃i,i<n/\listed.getD i false=false:=by
   cases hf:(List.range n).filter fun i=> !listed.getD i false with
   | nil=>rw [hf] at hm;simp at hm
   | cons i l =>
    have:i∈(List.range n).filter fun i=> !listed.getD i false:=by rw [hf];simp
    simp only [List.mem_filter,List.mem_range,Bool.not_eq_true'] at this;exact ⟨i,this⟩
  have hsz: ∀ {i},i<n->i<listed.size:=fun h=>by rw [inv.size];omega
  have hready:Region.ready .any ops listed≠ []:=by
   obtain ⟨i,hi,hu⟩:=hun
   have: ∃i,i<n/\listed.getD i false=false/\ ∀j,j<i->listed.getD j false=true:=by
    induction i using Nat.strongRecOn with
    | _ i ihh =>
     by_cases hex: ∃j,j<i/\listed.getD j false=false
     ·obtain ⟨j,hj,hju⟩:=hex;exact ihh j hj (by omega) hju
     ·exact ⟨i,hi,hu,fun j hj=>by
       cases hb:listed.getD j false with
       | true=>rfl
       | false=>exact absurd ⟨j,hj,hb⟩ hex⟩
   obtain ⟨i,hi,hu,hmin⟩:=this;intro h0
   have:i∈Region.ready .any ops listed:=by
    have hlt:i<ops.size:=by omega
    refine mem_ready.2 ⟨getD_in (hsz hi) hu,ops[i],by simp [hlt],fun e he hb=> ?_⟩;have h1:=List.all_eq_true.1 hea i (List.mem_range.2 hi);simp only [hlt,Array.getElem?_eq_getElem,Array.all_eq_true_iff_forall_mem] at h1;have:=h1 e he;simp [hb] at this;exact hmin _ this
   rw [h0] at this
   cases this
  rw [show u+1+(ops.size-n)=(u+(ops.size-n))+1 by omega];refine ⟨fun h0=>absurd h0 hready,fun i hi=> ?_⟩
  have hin:i<n:=by
   rcases hsc with h | ⟨hs,hc⟩
   ·obtain ⟨_,o,ho,_⟩:=mem_ready.1 hi;have:=(Array.getElem?_eq_some_iff.1 ho).1;omega
   ·rcases Nat.lt_or_ge i n with h | h
    ·exact h
    ·obtain ⟨k,hk,hu⟩:=hun
     by_cases hne:n<ops.size
     ·exact absurd hi (tail_waits hs hc hne inv _ k rfl hk (getD_in (hsz hk) hu) i h)
     ·obtain ⟨_,o,ho,_⟩:=mem_ready.1 hi;have:=(Array.getElem?_eq_some_iff.1 ho).1;omega
  obtain ⟨hiu,o,ho,XZ⟩:=mem_ready.1 hi
  have hds:(ops.toList.map (·.dst))[i]? =some o.dst:=by simp [ho]
  have hdeps: ∀j∈Zw i o,j<n/\listed.getD j false=true:=fun j hj=>by
   refine ⟨by have:=XD j hj;omega,?_⟩;simp [Zw] at hj;obtain ⟨e,⟨he,hb,_⟩,rfl⟩:=hj;exact XZ e he hb
  have hcount:((List.range n).filter fun k=> !(listed.setIfInBounds i true).getD k false).length=u:=by
   have e:((List.range n).filter fun k=> !(listed.setIfInBounds i true).getD k false)=((List.range n).filter fun k=> !listed.getD k false).filter (fun k=>k≠i):=by
    rw [List.filter_filter];refine List.filter_congr fun k hk=> ?_
    by_cases hki:k=i
    ·subst hki;simp [hsz hin]
    ·rw [getD_set_ne false (fun h=>hki h.symm)];simp [hki]
   rw [e]
   have hmem:i∈(List.range n).filter fun k=> !listed.getD k false:=by
    simp only [List.mem_filter,List.mem_range,Bool.not_eq_true'];exact ⟨hin,getD_both hiu⟩
   have hnd:((List.range n).filter fun k=> !listed.getD k false).Nodup:=List.nodup_range.filter _;have:=List.Nodup.erase_eq_filter hnd i
   have e2:(((List.range n).filter fun k=> !listed.getD k false).filter (fun k=>k≠i))=((List.range n).filter fun k=> !listed.getD k false).erase i:=by
    rw [this];refine List.filter_congr fun k _=> ?_
    by_cases h:k=i<;>simp [h,bne]
   rw [e2,List.length_erase_of_mem hmem,hm]
   rfl
  have next: ∀v w',Zyu P ko F H l ms (ZN (ops.toList.map (·.dst)) vals (List.range n) (ZV ((ops.toList.map (·.dst)).take n) fr)) K (ops.toList.map (·.dst)) fr vals n ι0 w0 (listed.setIfInBounds i true) (a.put o.dst v) w'->wpAny P .any ops Q (u+(ops.size-n)) (listed.setIfInBounds i true) (a.put o.dst v) w':=fun v w' h =>
   ih _ _ w' (inv.set hi hin) hcount h
  have hiu2:listed.getD i false=false:=getD_both hiu;obtain ⟨rem,dn,L,⟨hLH,hko⟩,hnd,hrm,hst,hdn,hlt,ι,mid,gd,slot⟩:=mid
  -- a slot that this operation does not write
  have hoth: ∀ {e:Nat} {v:Value},o.dst≠some e->((a.put o.dst v).tmps).getD e undef=a.tmps.getD e undef:=fun {e v} hne=>by
   cases hdst:o.dst with
   | none=>rfl
   | some d =>
    have hne2:d≠e:=fun h=>hne (by rw [hdst,h]);simp [Act.put,Array.getD_eq_getD_getElem?,Array.getElem?_setIfInBounds_ne hne2]
  have hapart: ∀ {j e:Nat},j<n->j≠i->(ops.toList.map (·.dst))[j]? =some (some e)->o.dst≠some e:=fun {j e} hj hji hd h=>by
   have:=List.all_eq_true.1 (List.all_eq_true.1 hap i (List.mem_range.2 hin)) j (List.mem_range.2 hj);simp [hds,h,hd,Ne.symm hji] at this
  have hdm: ∀m∈ms,(ops.toList.map (·.dst))[m]? =some (Z3 l m).dst:=fun m hm=>by
   have:=(hms m hm).2.1;simp [this]
  unfold wpOp;simp only [ho]
  by_cases him:i∈ms
  ·-- a late one
   obtain ⟨_,hom,hgm,hvm⟩:=hms i him;rw [hom] at ho;simp at ho;subst ho
   have hir:i∈rem:=by
    have h1:=hst i him;rw [hiu2] at h1;simpa using h1.symm
   have hrl:i∈Wa l rem:=by
    rw [Wa,List.mem_filter];refine ⟨hir,List.all_eq_true.2 fun m' hm'=> ?_⟩
    cases hc:(Zw i (Z3 l i)).contains m' with
    | false=>rfl
    | true =>
     have h3:=(hdeps m' (by simpa using hc)).2;rw [hst m' (hrm m' hm')] at h3;simp at h3;exact absurd hm' h3
   obtain ⟨k,hk⟩: ∃k,rem.length=k+1:=⟨rem.length-1,by have:=List.length_pos_of_mem hir;omega⟩;rw [hk] at hlt;obtain ⟨R,hstep,hltR⟩:=hlt i hrl
   let ls:=(List.range n).filter fun j=>listed.getD j false
   have hls: ∀j∈ls,j<n/\listed.getD j false=true:=fun j hj=>by simpa [ls] using hj
   have hfr:=frAt (dn:=dn) (L:=L) ls hls mid slot
   have hag:Wz (opR (Z3 l i).op) (ZN (ops.toList.map (·.dst)) vals ls (ZV ((ops.toList.map (·.dst)).take n) fr)) (ZN (ops.toList.map (·.dst)) vals (List.range n) (ZV ((ops.toList.map (·.dst)).take n) fr)) :=
    Vz hap hdl hvl (fun j hj=>(hls j hj).1) fun t ht j hj hd=>by
     have:=hdeps j (hrd i him t ht j hj hd);simpa [ls] using this
   have hl:=Zek (UK l (by rw [ZZ,ZZ]) hag dn) hstep
   have hw:Region.wanted (Z3 l i) (yielded ops a.tmps)=true:=by simp [Region.wanted,hgm]
   rw [if_pos hw];refine .inl (Zou hl gd.rel hfr fun x H' ι' v w' hk g r=> ?_);obtain ⟨hko',hlt'⟩:=hltR x H' hk;have trans: ∀ {x:V} {v:Value},RV F L ι w x v->RV F H' ι' w' x v:=fun {x v} h=>g.rv h
   have ZN: ∀m∈ms,(listed.setIfInBounds i true).getD m false=decide (m ∉ rem.erase i):=fun m hm=>by
    by_cases e:m=i
    ·subst e;simp [hsz hin,hnd.not_mem_erase]
    ·rw [getD_set_ne false (fun h=>e h.symm),hst m hm];refine decide_eq_decide.2 (not_congr ?_);rw [List.mem_erase_of_ne e]
   have hpi: ∀p∈dn,p.1≠i:=fun p hp e=>(hdn p hp).2 (e ▸ hir);refine next v w' ⟨rem.erase i,(i,x)::dn,H',⟨fun XZ=>absurd (XZ i him) hnd.not_mem_erase,fun k hk=>(hko' k hk).trans (hko k hk)⟩,hnd.erase i,fun m hm=>hrm m (List.mem_of_mem_erase hm),ZN,fun p hp=> ?_,?_,ι',⟨g.rel,?_,?_,fun t z ht' hnt=> ?_,fun j e z hj hlj hd hz hlt=> ?_⟩,gd.trans g,fun p hp d hd hlt=> ?_⟩
   ·rcases List.mem_cons.1 hp with rfl | hp
    ·exact ⟨him,hnd.not_mem_erase⟩
    ·exact ⟨(hdn p hp).1,fun h=>(hdn p hp).2 (List.mem_of_mem_erase h)⟩
   ·have:(rem.erase i).length=k:=by rw [List.length_erase_of_mem hir];omega
    rw [this];exact hlt'
   ·cases (Z3 l i).dst<;>simp [Act.put,mid.size]
   ·cases (Z3 l i).dst<;>exact mid.defers
   ·rw [hoth (fun e=>hnt (by
     rw [List.mem_iff_getElem?]
     exact ⟨i,by rw [List.getElem?_take_of_lt hin,hds,e]⟩))]
    exact trans (mid.old t z ht' hnt)
   ·by_cases hij:j=i
    ·subst hij;rw [hvm] at hz;simp at hz;subst hz;exact .junk _
    ·have hl':listed.getD j false=true:=by rwa [getD_set_ne false (fun h=>hij h.symm)] at hlj
     rw [hoth (hapart hj hij hd)];exact trans (mid.new j e z hj hl' hd hz hlt)
   ·rcases List.mem_cons.1 hp with rfl | hp
    ·simp only at hd;rw [hd]
     have:d<a.tmps.size:=by rw [mid.size];exact hlt
     have e2:((a.put (some d) v).tmps).getD d undef=v:=by simp [Act.put,Array.getD,this]
     rw [e2];exact r
    ·have hpm:=(hdn p hp).1;rw [hoth (hapart (hms _ hpm).1 (hpi p hp) (by rw [hdm _ hpm,hd]))];exact g.rv (slot p hp d hd hlt)
  ·-- another
   have hil:i<l.length:=by have:=(Array.getElem?_eq_some_iff.1 ho).1;rw [<- hol];simpa using this
   have hlo:Z3 l i=o:=by
    have e:ops[i]? =some (Z3 l i):=by
     rw [<- Array.getElem?_toList,hol,U8,List.getD_eq_getElem?_getD,List.getElem?_eq_getElem hil];rfl
    rw [ho] at e;simpa using e.symm
   have hokL:Zgh P (ops.toList.map (·.dst)) (ZV ((ops.toList.map (·.dst)).take n) fr) L vals i o:=by
    by_cases XZ: ∀m∈ms,m∈rem
    ·rw [hLH XZ];exact hok i o hin him ho
    ·rcases (hev i hin him).symm with h | h
     ·exact ZkV (by rw [<- hlo];exact h) hko (hok i o hin him ho)
     rcases h with h | h
     ·exact Zau (by rw [<- hlo];exact h) (hok i o hin him ho)
     ·exfalso;refine XZ fun m hm=>Classical.byContradiction fun hnr=> ?_;have h1:=hst m hm;rw [decide_eq_true hnr] at h1
      have hml:m<l.length:=by have:=(Array.getElem?_eq_some_iff.1 (hms m hm).2.1).1;rw [<- hol];simpa using this
      have:=WT hol inv n i m hml (h m hm) fun j hj=>by
       simp [Zw] at hj;obtain ⟨e,⟨he,hb,_⟩,rfl⟩:=hj;exact inv.closed m _ (hms m hm).2.1 h1 e he hb
      rw [hiu2] at this;cases this
   obtain ⟨z,hz,hok'⟩:=hokL;have hfr:=mid.fr _ hdeps
   have next': ∀ι' v w',Good F L ι w L ι' w'->RV F L ι' w' z v->wpAny P .any ops Q (u+(ops.size-n)) (listed.setIfInBounds i true) (a.put o.dst v) w':=fun ι' v w' g r=>by
    refine next v w' ⟨rem,dn,L,⟨hLH,hko⟩,hnd,hrm,fun m hm=> ?_,hdn,hlt,ι',mid.put hap g hin hds hz r,gd.trans g,fun p hp d hd hlt=> ?_⟩
    ·rw [getD_set_ne false (fun (e:i=m)=>him (e ▸ hm))];exact hst m hm
    ·have hpm:=(hdn p hp).1;rw [hoth (hapart (hms _ hpm).1 (fun h=>him (h ▸ hpm)) (by rw [hdm _ hpm,hd]))];exact g.rv (slot p hp d hd hlt)
   have run:Zr P o (ZN (ops.toList.map (·.dst)) vals (Zw i o) (ZV ((ops.toList.map (·.dst)).take n) fr)) L (fun x H'=>x=z/\H'=L)->o.wp P a w (wpAny P .any ops Q (u+(ops.size-n)) (listed.setIfInBounds i true)) Q:=fun h =>
    U2 h mid.rel hfr fun x H' ι' v w' hk g r=>by
     obtain ⟨rfl,rfl⟩:=hk;exact next' ι' v w' g r
   split at hok'
   ·rename_i hg
    have hw:Region.wanted o (yielded ops a.tmps)=true:=by simp [Region.wanted,hg]
    rw [if_pos hw];exact .inl (run hok')
   ·rename_i j b hg;rcases hok' with ⟨c,hc,h1,h2⟩ | ⟨hc,hyt⟩
    rotate_left
    ·have hyl:=Xo hfr hc
     have hw: ¬(Region.wanted o (yielded ops a.tmps)=true):=by simp [Region.wanted,hg,hyl]
     rw [if_neg hw];exact next' ι undef w (Good.refl mid.rel) (by rw [hyt];exact XK)
    have hyl:=XN hfr hc
    by_cases hcb:c=b
    ·have hw:Region.wanted o (yielded ops a.tmps)=true:=by simp [Region.wanted,hg,hyl,hcb]
     rw [if_pos hw];exact .inl (run (h1 hcb))
    ·have hw: ¬(Region.wanted o (yielded ops a.tmps)=true):=by simp [Region.wanted,hg,hyl,hcb]
     rw [if_neg hw];exact next' ι undef w (Good.refl mid.rel) (by rw [h2 hcb];exact XK)
def ldP (o:Oper):Option Nat:=match o.op with | .load _ (.tmp p)=>if o.guard.isNone=true then some p else none | .fieldAddr _ (.tmp p) _=>if o.guard.isNone=true then some p else none | .indexAddr _ (.tmp p) _=>if o.guard.isNone=true then some p else none | .nilCheck (.tmp p)=>if o.guard.isNone=true then some p else none | _=>none
def evC (l:List Oper) (n:Nat) (ms ks:List Nat):Bool:=(List.range n).all fun i=>ms.contains i||W5 (Z3 l i).op||(ms.all fun m=>QC l n i m)||(ks.contains i&&match ldP (Z3 l i) with
 | some p=>(List.range n).all fun j=>match (l.map (·.dst))[j]? with | some (some d)=>decide (d≠p)||(Zw i (Z3 l i)).contains j | _=>true
 | none=>false)
theorem ZcL (ms ks ko:List Nat) {P:Program} {id:Nat} {l:List Oper} {fr:List V} {H:List Obj} {Q:Exit->List V->List Obj->Prop} {t} (n:Nat) (hm:P.follows .mixedOrders=true) (hB:Y1 (List.toArray l) n=true) (hR:Qb (List.toArray (VQ ms l)) n=true) (hL:K0 l n ms=true) (hE:evC l n ms ks=true) (hfl:fr.length<=1000000)
  (h:hs P (l.map (·.dst)) H (ZE (fun fr'=>(∀k∈ks,∀p,ldP (Z3 l k)=some p->Zao ko (gt (idF fr') p))/\Zf0 P ko l ms.length ms (idF fr') H (ZE (fun fr2 L=>YH P (l.map (·.dst)) (l.drop n) fr2 L (ZE (Q .normal) ⟨⟩)) ⟨⟩)) ⟨⟩) ((VQ ms l).take n) (idF fr)) :
  AWP P (.region id (ZE (List.toArray l) t) true) fr H Q:=fun F ι a w hr hf=>by
 refine wp_region_any hm ?_;have hB':=hB;simp only [Y1,Bool.and_eq_true,decide_eq_true_eq] at hB';obtain ⟨⟨⟨⟨hn,_⟩,_⟩,hap⟩,_⟩:=hB'
 have hn2:n<=l.length:=by simpa using hn
 simp only [K0,Bool.and_eq_true,List.all_eq_true,decide_eq_true_eq] at hL;obtain ⟨hL1,hL3⟩:=hL;have hds:(VQ ms l).map (·.dst)=l.map (·.dst):=JI ms l;have hh:=ZhP (P:=P) (H:=H) (ops:=List.toArray (VQ ms l)) (n:=n) (fr:=fr) (K:=fun fr'=>(∀k∈ks,∀p,ldP (Z3 l k)=some p->Zao ko (gt fr' p))/\Zf0 P ko l ms.length ms fr' H (fun fr2 L=>YH P (l.map (·.dst)) (l.drop n) fr2 L (Q .normal))) (by simpa [Jk] using hn2) (by simpa [hds] using hap) hR _ 0 [] (Nat.zero_le _) rfl (by simp;rfl) (by simpa [hds,ZN,ZE,idF] using h);obtain ⟨ys,h1,⟨h2a,h2b⟩,h3⟩:=Uf _ 0 [] rfl hh
 simp only [List.nil_append,hds] at h2a h2b h3;have hlen:ys.length=n:=h2a;have g0:=Good.drew hr;have hf0:=g0.fr hf;have hget: ∀k,k<n->((VQ ms l).take n)[k]? =(VQ ms l)[k]? :=fun k hk=>List.getElem?_take_of_lt hk;have hjl:(ZV ((l.map (·.dst)).take n) fr).length=fr.length:=ZP _ _
 have hlat: ∀m∈ms,m<n/\l[m]? =some (Z3 l m)/\(Z3 l m).guard=none:=fun m hm=>by
  obtain ⟨⟨h4,h5⟩,h6,_⟩:=hL1 m hm;exact ⟨h4,by rw [U8,List.getD_eq_getElem?_getD,List.getElem?_eq_getElem h5];rfl,by simpa using h6⟩
 have hvm: ∀m∈ms,ys[m]? =some .junk:=fun m hm=>by
  obtain ⟨q1,q2,q3⟩:=hlat m hm;obtain ⟨z,hy,hk⟩:=h3 m (VK (Z3 l m)) (by rw [hget _ q1];exact JF ms l _ _ hm q2);rw [Nat.zero_add] at hy;have e1:(VK (Z3 l m)).guard=none:=q3;rw [e1] at hk;simp only [VK,Zr,Zp,Xp,Xs,aop,ZF] at hk
  have hk2:gt (ZN (l.map (·.dst)) ys (Zw (0+m) { Z3 l m with op:= .move (.tmp 1000000) }) (ZV ((l.map (·.dst)).take n) fr)) 1000000=z:=by simpa [ev] using hk
  rw [ZdJ (by rw [ZZ,hjl];exact hfl)] at hk2;rw [hy,hk2]
 have hfin:ZN (l.map (·.dst)) ys (List.range n) (ZV ((l.map (·.dst)).take n) fr)=ZN (l.map (·.dst)) ys (List.range n) fr:=Ja hap (by simpa using hn2) hlen
 have:=ZaJ (ko:=ko) (Q:=fun e a' w'=> ∃fr' H' ι',Q e fr' H'/\Good F H ι w H' ι' w'/\Fr F H' ι' w' fr' a') (F:=F) (fr:=fr) (vals:=ys) (P:=P) (H:=H) (l:=l) (ms:=ms) (K:=fun fr2 L=>YH P (l.map (·.dst)) (l.drop n) fr2 L (Q .normal)) (ops:=List.toArray l) (ι0:=ι) (w0:= { w with drawn:=w.drawn+1 }) rfl hB hlen
  (fun m hm=>⟨(hlat m hm).1,by simpa using (hlat m hm).2.1,(hlat m hm).2.2,hvm m hm⟩)
  (fun m hm t ht j hj hd=>by
   obtain ⟨_,_,h5⟩:=hL1 m hm;have h6:=h5 t ht j (List.mem_range.2 hj);simp only at hd;rw [hd] at h6
   simpa using h6)
  (fun i hi him=>by
   have:=List.all_eq_true.1 hE i (List.mem_range.2 hi);rw [Bool.or_eq_true,Bool.or_eq_true,Bool.or_eq_true] at this;rcases this with h | h
   ·rcases h with h | h
    ·rcases h with h | h
     ·exact absurd (by simpa using h) him
     ·exact .inl (.inl h)
    ·exact .inl (.inr fun m hm=>List.all_eq_true.1 h m hm)
   ·right
    rw [Bool.and_eq_true] at h;obtain ⟨hk,h⟩:=h
    split at h
    rotate_left
    ·cases h
    rename_i p hp;have ho:=h2b.1 i (by simpa using hk) p hp
    have hgo:(Z3 l i).guard=none/\((∃u,(Z3 l i).op= .load u (.tmp p))\/(∃s f,(Z3 l i).op= .fieldAddr s (.tmp p) f)\/(∃t q,(Z3 l i).op= .indexAddr t (.tmp p) q)\/(Z3 l i).op= .nilCheck (.tmp p)):=by
     unfold ldP at hp
     split at hp
     ·rename_i u q hop
      split at hp
      ·rename_i hg;simp at hp;subst hp;exact ⟨by simpa using hg,.inl ⟨u,hop⟩⟩
      ·cases hp
     ·rename_i u q f hop
      split at hp
      ·rename_i hg;simp at hp;subst hp;exact ⟨by simpa using hg,.inr (.inl ⟨u,f,hop⟩)⟩
      ·cases hp
     ·rename_i u q f hop
      split at hp
      ·rename_i hg;simp at hp;subst hp;exact ⟨by simpa using hg,.inr (.inr (.inl ⟨u,f,hop⟩))⟩
      ·cases hp
     ·rename_i q hop
      split at hp
      ·rename_i hg;simp at hp;subst hp;exact ⟨by simpa using hg,.inr (.inr (.inr hop))⟩
      ·cases hp
     ·cases hp
    refine ⟨hgo.1,p,hgo.2,?_⟩
    have hag:=Vz (fr:=fr) (vals:=ys) (ls:=Zw i (Z3 l i)) (R:= [p]) hap (by simpa using hn2) hlen (fun j hj=>by have:=XD j hj;omega) fun t ht j hj hd=>by
     have h5:=List.all_eq_true.1 h j (List.mem_range.2 hj);simp at ht;subst ht;rw [hd] at h5;simpa using h5
    rw [hag p (by simp),hfin]
    exact ho)
  (fun i o hi him ho=>by
   have:=h3 i o (by
    rw [hget i hi,Uh]
    ·simpa using ho
    ·exact him)
   rwa [Nat.zero_add] at this)
  (fun fr2 L ι1 a1 w1 k1 g1 f1=>Xe (P:=P) (ops:=List.toArray l) _ _ L _ k1 F ι1 a1 w1 g1.rel f1 fun fr' H' ι' a' w' k g f=>⟨fr',H',ι',k,g0.trans (g1.trans g),f⟩)
  n (Array.replicate l.length false) a { w with drawn:=w.drawn+1 }
  ⟨by simp,fun j oj _ hl=>(by rw [getD_replicate_false] at hl;cases hl),fun t _ ht=>getD_in (by simpa using ht) (getD_replicate_false _ _)⟩
  (by
   rw [List.filter_eq_self.2 (fun i _=>by rw [getD_replicate_false];rfl)]
   simp)
  ⟨ms,[],H,⟨fun _=>rfl,fun _ _=>rfl⟩,hL3,fun m hm=>hm,fun m hm=>by rw [getD_replicate_false];simp [hm],fun p hp=>(by cases hp),by
    simp only [ptl];rw [hfin]
    exact h2b.2,ι,⟨g0.rel,hf0.1,hf0.2.1,fun t x ht _=>hf0.2.2 t x ht,fun j d x _ hl=>by rw [getD_replicate_false] at hl;cases hl⟩,Good.refl g0.rel,fun p hp=>(by cases hp)⟩
 simp only [List.size_toArray] at this;simp only [ZE,List.size_toArray];rwa [show n+(l.length-n)=l.length by omega] at this
@[go_sem] theorem Ztk {H:List Obj} {n cs cs'} :wkV H n (.tup cs) (.tup cs')=(cs'=cs/\ZT n cs=true):=by simp [wkV,frz,refB]
def eII (p:Int×Int):PV×PV:=(.int .i64 p.1,.int .i64 p.2)
def Zp2 (P:Program) (t:TypeId):Option (TypeDesc×Option PV):=match P.underlying t with
 | some (.map kt et)=>(P.underlying kt).map fun d=>(d,U3 P et)
 | _=>none
def mix (l:List (Int×Int)) (k:Int):Option Nat:=l.findIdx? fun p=>decide (k=p.1)
def QO (l:List (Int×Int)) (k:Int):Int:=match mix l k with | some i=>((l[i]?).map (·.2)).getD 0 | none=>0
theorem UW (k:Int): ∀(l:List (Int×Int)) (n:Nat),V9 (.int .i64 k) (l.map eII) n=(mix l k).map fun i=>(n+i,.int .i64 (((l[i]?).map (·.2)).getD 0))
 | [],n=>by simp [V9,mix]
 | p::l,n=>by
  have ih:=UW k l (n+1);simp only [List.map_cons,V9,eII,keq]
  by_cases h:k=p.1
  ·simp [h,mix,List.findIdx?_cons]
  ·simp only [h,decide_false,Bool.false_eq_true,if_false];rw [ih];simp only [mix,List.findIdx?_cons,h,decide_false,Bool.false_eq_true,if_false]
   cases l.findIdx? (fun p=>decide (k=p.1)) with
   | none=>rfl
   | some i=>simp;omega
theorem ZbQ {P t d z} (h:Zp2 P t=some (d,z)): ∃kt et,P.underlying t=some (.map kt et)/\P.underlying kt=some d/\U3 P et=z:=by
 unfold Zp2 at h
 split at h
 ·rename_i kt et hu;simp only [Option.map_eq_some_iff,Prod.mk.injEq] at h;obtain ⟨d',h1,rfl,h2⟩:=h;exact ⟨kt,et,hu,h1,h2⟩
 ·cases h
theorem Kg {P:Program} {H:List Obj} {kt:TypeId} {o:Nat} {l:List (Int×Int)} {k:Int} (hd:P.underlying kt=some (.int .i64)) (hH:oat H o= .map (l.map eII)):Zat P H kt (.int .i64 k) o=some (l.map eII):=by
 simp [Zat,hH,mkey,hd,eII,kpair]
theorem Jw {l:List (Int×Int)} {k:Int} {i:Nat} (h:mix l k=some i): ∃v,l[i]? =some (k,v)/\QO l k=v:=by
 have h0:=h;unfold mix at h;rw [List.findIdx?_eq_some_iff_getElem] at h;obtain ⟨h1,h2,_⟩:=h
 have h3:k=l[i].1:=by simpa using h2
 refine ⟨l[i].2,by simp [h1];rw [h3],?_⟩;simp [QO,h0,h1]
section
variable {P : Program} {H : List Obj} {t : TypeId} {o : Nat} {l : List (Int × Int)} {k : Int} {K : V -> List Obj -> Prop}
theorem Zbe (hT:Zp2 P t=some (.int .i64,some (.int .i64 0))) (hH:oat H o= .map (l.map eII)) (h:K (.p (.int .i64 (QO l k))) H):mst (Zcs P H t (.mp o) (.p (.int .i64 k)) false) K:=by
 obtain ⟨kt,et,h1,h2,h3⟩:=ZbQ hT;simp only [Zcs,h1,Kg h2 hH,Option.bind_some,UW,h3]
 cases hm:mix l k with
 | none =>
  have e:QO l k=0:=by simp [QO,hm]
  rw [e] at h;simp only [Option.map_none,Option.map_some,mst];exact h
 | some i =>
  have e:QO l k=((l[i]?).map (·.2)).getD 0:=by simp [QO,hm]
  rw [e] at h;simp only [Option.map_some,mst];exact h
theorem Zdf {i:Nat} {v:Int} (hH:oat H o= .map (l.map eII)) (hm:mix l k=some i) (h:(∀q,QO (l.set i (k,v)) q=if q=k then v else QO l q)->K .junk (H.set o (.map ((l.set i (k,v)).map eII)))):mst (VD H (.mp o) (.p (.int .i64 (i:Nat))) (.p (.int .i64 v))) K:=by
 obtain ⟨u,q1,q2⟩:=Jw hm;have hil:=(List.getElem?_eq_some_iff.1 q1).1
 have e1:(l.map eII)[i]? =some (eII (k,u)):=by rw [List.getElem?_map,q1];rfl
 simp only [VD,hH,Int.natCast_nonneg,if_true,Int.toNat_natCast,e1,mst]
 have e2:(l.map eII).set i ((eII (k,u)).1,.int .i64 v)=(l.set i (k,v)).map eII:=by rw [List.map_set];rfl
 rw [e2];refine h fun q=> ?_
 have hkeys: ∀j:Nat,((l.set i (k,v))[j]?).map Prod.fst=(l[j]?).map Prod.fst:=fun j=>by
  rw [List.getElem?_set]
  split
  ·rename_i e;subst e;rw [q1];simp [hil]
  ·rfl
 have hmix: ∀q,mix (l.set i (k,v)) q=mix l q:=fun q=>by
  have key: ∀(a b:List (Int×Int)),a.map Prod.fst=b.map Prod.fst->mix a q=mix b q:=fun a b hab=>by
   have e: ∀c:List (Int×Int),mix c q=(c.map Prod.fst).findIdx? fun z=>decide (q=z):=fun c=>by
    rw [List.findIdx?_map];rfl
   rw [e,e,hab]
  refine key _ _ (List.ext_getElem? fun j=> ?_);rw [List.getElem?_map,List.getElem?_map];exact hkeys j
 unfold QO;rw [hmix]
 by_cases hq:q=k
 ·subst hq;rw [hm,if_pos rfl];simp [hil]
 ·rw [if_neg hq]
  cases hc:mix l q with
  | none=>rfl
  | some j =>
   have hji:i≠j:=fun e=>by
    subst e;obtain ⟨u2,p1,_⟩:=Jw hc;rw [q1] at p1;simp at p1;exact hq p1.1.symm
   simp only;rw [List.getElem?_set_ne hji]
end
end Go.AM
