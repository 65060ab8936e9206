/- Declarations that the closing texts need, part 7: joined by tools/slim.py. -/
import Derived.Test.YtiigdaohjanidaaGreatDoorI6
import Derived.Lib.LazyBuf
set_option linter.unusedVariables false
set_option linter.unusedSimpArgs false
namespace Go.AM
open Go.RowKit
@[go_sem ↓] theorem ZcX {P ds o l m fr H K} :YC P ds (List.append (o::l) m) fr H K=YC P ds (o::List.append l m) fr H K:=rfl
@[go_sem ↓] theorem ZcZ {P ds m fr H K} :YC P ds (List.append [] m) fr H K=YC P ds m fr H K:=rfl
@[go_sem] theorem ZdF {α:Type} {x:α} {l m} :List.append (x::l) m=x::List.append l m:=rfl
@[go_sem] theorem ZhI {α:Type} {m:List α} :List.append [] m=m:=rfl
theorem VU {P:Program} {ops:Array Oper} {Q:Exit->Act->World->Prop} {r:List Oper} : ∀(l:List Oper) (fr:List V) (H:List Obj) (K:List V->List Obj->Prop),YC P (ops.toList.map (·.dst)) l fr H K ->
  ∀F ι a w,Rel F H ι w->Fr F H ι w fr a ->
   (∀fr' H' ι' a' w',K fr' H'->Good F H ι w H' ι' w'->Fr F H' ι' w' fr' a'->wpList P ops Q r a' w')->wpList P ops Q (l++r) a w
 | [],fr,H,K,h,F,ι,a,w,hr,hf,hq=>hq fr H ι a w h (Good.refl hr) hf
 | o::l,fr,H,K,h,F,ι,a,w,hr,hf,hq=>by
  have step: ∀ {fr:List V} {a:Act},Fr F H ι w fr a->Zr P o fr H (fun x H'=>YC P (ops.toList.map (·.dst)) l (Y9 fr o.dst x) H' K)->o.wp P a w (wpList P ops Q (l++r)) Q:=fun hf h =>
   UU h hr hf fun x H' ι' v w' hk g q=>VU l _ H' K hk F ι' _ w' g.rel ((g.fr hf).put o.dst q)
    fun fr' H2 ι2 a' w2 k2 g2 f2=>hq fr' H2 ι2 a' w2 k2 (g.trans g2) f2
  simp only [YC] at h;simp only [ZY,wpList]
  split at h
  ·rename_i hg
   have hw:Region.wanted o (yielded ops a.tmps)=true:=by simp [Region.wanted,hg]
   rw [if_pos hw];exact .inl (step hf h)
  ·rename_i j b hg;unfold Xv at h
   split at h
   rotate_left
   ·rename_i hc;have hy:=YR hf hc
    have hw: ¬(Region.wanted o (yielded ops a.tmps)=true):=by simp [Region.wanted,hg,hy]
    rw [if_neg hw];exact VU l _ H K h F ι _ w hr (hf.put o.dst Y5) hq
   ·exact h.elim
   rename_i c hc;have hy:=WX hf hc
   by_cases hcb:c=b
   ·have hw:Region.wanted o (yielded ops a.tmps)=true:=by simp [Region.wanted,hg,hy,hcb]
    rw [if_pos hw];exact .inl (step hf (h.1 hcb))
   ·have hw: ¬(Region.wanted o (yielded ops a.tmps)=true):=by simp [Region.wanted,hg,hy,hcb]
    rw [if_neg hw];exact VU l _ H K (h.2 hcb) F ι _ w hr (hf.put o.dst Y5) hq
theorem RV.refB {F H ι w x v} (h:RV F H ι w x v):refB H.length x=true:=by
 have lt: ∀ {o:Nat} {ob:Obj},H[o]? =some ob->o<H.length:=fun h=>(ZT.1 h).1
 have all: ∀(l:List V),(∀(j:Nat) (c:V),l[j]? =some c->AM.refB H.length c=true)->Xd H.length l=true:=fun l=>by
  induction l with
  | nil=>intro _;rfl
  | cons x l ih=>intro h;simp only [Xd,ZO];exact ⟨h 0 x rfl,ih fun j c hj=>h (j+1) c (by grind)⟩
 induction h with
 | p=>rfl
 | agg cs a hs _ ih=>exact all cs ih
 | fn f cs ds a e hs ht _ _ ih1 ih2=>simp only [AM.refB,ZO];grind
 | tup cs a hs _ ih=>exact all cs ih
 | ptr o off b cs h hH=>simp [AM.refB,lt hH]
 | ep o i j tot b S xs h hH ht=>simp [AM.refB,lt hH]
 | slNil o S a h hH=>simp [AM.refB,lt hH]
 | sl o off len tot b S cap t xs c h hH=>simp [AM.refB,lt hH]
 | lp=>rfl
 | mp o b es h hH=>simp [AM.refB,lt hH]
 | mpD o v h=>simp [AM.refB,lt h]
 | bp o b T E r bs h hH=>simp [AM.refB,lt hH]
 | bpD o v h=>simp [AM.refB,lt h]
 | junk=>rfl
 | ptrD o off v h=>simp [AM.refB,lt h]
 | epD o i j tot v h=>simp [AM.refB,lt h]
 | slD o off len tot v h=>simp [AM.refB,lt h]
 | epS o i j tot v S xs h hne=>simp [AM.refB,lt h]
 | slS o off len tot v S xs h hne=>simp [AM.refB,lt h]
 | slC o tot b cap cs h hH hl hm=>simp [AM.refB,lt hH]
theorem Rel.refH {F H ι w} (h:Rel F H ι w):refH H.length H=true:=by
 rw [AM.refH,Zv];intro ob hm;obtain ⟨o,ho⟩:=ZL.1 hm
 cases ob with
 | cells cs =>
  obtain ⟨b,c,t,_,_,_,h4⟩:=h.cel o cs ho
  have: ∀(l:List V),(∀x∈l,refB H.length x=true)->Xd H.length l=true:=fun l=>by
   induction l with
   | nil=>intro _;rfl
   | cons x l ih=>simp_all [Xd]
  exact this cs fun x hx=>by
   obtain ⟨j,hj⟩:=ZL.1 hx;exact (h4 j x hj).refB
 | elems=>rfl
 | map=>rfl
 | bld T E r bs=>simpa using (ZT.1 (h.bldr o T E r bs ho).2.1).1
 | dead=>rfl
def JS (o:Oper):Oper:= { o with op:= .move (.tmp 1000000) }
def Qy : Nat->List Oper->List Oper
 | _,[]=> []
 | 0,o::l=>JS o::l
 | m+1,o::l=>o::Qy m l
theorem Km : ∀(m:Nat) (l:List Oper) (i:Nat),(Qy m l)[i]? =if i=m then (l[i]?).map JS else l[i]?
 | m,[],i=>by grind [Qy]
 | 0,o::l,0=>by simp [Qy]
 | 0,o::l,i+1=>by simp [Qy]
 | m+1,o::l,0=>by simp [Qy]
 | m+1,o::l,i+1=>by simp [Qy,Km m l i]
theorem LW : ∀(m:Nat) (l:List Oper),(Qy m l).map (·.dst)=l.map (·.dst)
 | m,[]=>by grind [Qy]
 | 0,o::l=>by rfl
 | m+1,o::l=>by simp [Qy,LW m l]
theorem LX : ∀(m:Nat) (l:List Oper),(Qy m l).length=l.length
 | m,[]=>by grind [Qy]
 | 0,o::l=>by simp [Qy]
 | m+1,o::l=>by simp [Qy,LX m l]
theorem NJ : ∀ {fr:List V} {t:Nat},fr.length<=t->gt fr t= .junk
 | [],_,_=>rfl
 | _::_,0,h=>by simp at h
 | _::l,t+1,h=>by simp only [gt];exact NJ (by simpa using h)
@[go_sem] theorem ZdL {o:Oper} {l} :Qy 0 (o::l)=JS o::l:=rfl
@[go_sem] theorem ZdK {o:Oper} {l m} :Qy (m+1) (o::l)=o::Qy m l:=rfl
@[go_sem] theorem ZhZ {d op t ps af g} :JS ⟨d,op,t,ps,af,g⟩=⟨d,.move (.tmp 1000000),t,ps,af,g⟩:=rfl
theorem oX {fr:List V} {d:Option Nat} {x:V} :(Y9 fr d x).length=fr.length:=by cases d<;>simp [Y9,V8]
theorem oW {fr:List V} {d:Option Nat} {v x:V} {t:Nat} (h:(Y9 fr d v)[t]? =some x):(d=some t/\x=v/\t<fr.length)\/(d≠some t/\fr[t]? =some x):=by
 cases d with
 | none=>exact .inr ⟨Zb,h⟩
 | some d =>
  simp only [Y9,V8] at h
  grind
theorem AP {ds:List (Option Nat)} {vals:List V} {n:Nat} (hap:Jc ds n=true) (hn:n<=ds.length) (hv:vals.length=n) {R:List Nat} {ls:List Nat} (hls: ∀j∈ls,j<n) {fr:List V} (hR: ∀t∈R,∀j,j<n->ds[j]? =some (some t)->j∈ls) :
  VG R (ZE ds vals ls (Z0 (ds.take n) fr)) (ZE ds vals (List.range n) (Z0 (ds.take n) fr)):=fun t ht=>by
 apply Gp
 by_cases hex: ∃j,j<n/\ds[j]? =some (some t)
 ·grind [By,YE]
 grind [Kf]
def VN : List Nat->List Oper->List Oper
 | [],l=>l
 | m::ms,l=>VN ms (Qy m l)
theorem EN : ∀(ms:List Nat) (l:List Oper),(VN ms l).map (·.dst)=l.map (·.dst)
 | [],_=>rfl
 | m::ms,l=>by rw [VN,EN ms,LW]
theorem EO : ∀(ms:List Nat) (l:List Oper),(VN ms l).length=l.length
 | [],_=>rfl
 | m::ms,l=>by rw [VN,EO ms,LX]
theorem BO : ∀(ms:List Nat) (l:List Oper) (i:Nat),i ∉ ms->(VN ms l)[i]? =l[i]?
 | [],_,_,_=>rfl
 | m::ms,l,i,h=>by
  simp at h;rw [VN,BO ms _ i h.2,Km,if_neg h.1]
theorem DM : ∀(ms:List Nat) (l:List Oper) (i:Nat) (o:Oper),i∈ms->l[i]? =some o->(VN ms l)[i]? =some (JS o)
 | [],_,_,_,h,_=>by cases h
 | m::ms,l,i,o,h,ho=>by
  rw [VN]
  by_cases hi:i∈ms
  ·by_cases e:i=m
   ·subst e;have:=DM ms (Qy i l) i (JS o) hi (by rw [Km,if_pos rfl,ho];rfl);rw [this];rfl
   ·exact DM ms (Qy m l) i o hi (by rw [Km,if_neg e];exact ho)
  ·have e:i=m:=by
    grind
   subst e;rw [BO ms _ _ hi,Km,if_pos rfl,ho];rfl
def JQ (l:List Oper) (n:Nat) (ms:List Nat):Bool :=
 (ms.all fun m=>decide (m<n)&&match l[m]? with
  | some o=>o.guard.isNone&&(WI o.op).all fun t=>(List.range n).all fun j=>match (l.map (·.dst))[j]? with
    | some (some d)=>decide (d≠t)||(ZR m o).contains j
    | _=>true
  | none=>false)&&((List.range (ms.length-1)).all fun s=>match ms[s]?,ms[s+1]? with
   | some a,some b=>match l[b]? with | some o=>(ZR b o).contains a | none=>false
   | _,_=>false)&&(List.range ms.length).all fun s=>(List.range ms.length).all fun t=>decide (s=t)||decide (ms[s]? ≠ms[t]?)
def ZV : List Oper->Nat->Oper
 | [],_=>default
 | o::_,0=>o
 | _::l,n+1=>ZV l n
theorem BA : ∀(l:List Oper) (n:Nat),ZV l n=l.getD n default
 | [],n=>by simp [ZV]
 | o::l,0=>rfl
 | o::l,n+1=>by simp [ZV,BA l n]
@[go_sem] theorem ZdH {o:Oper} {l} :ZV (o::l) 0=o:=rfl
@[go_sem] theorem ZdG {o:Oper} {l n} :ZV (o::l) (n+1)=ZV l n:=rfl
@[go_sem] theorem Zh0 {l:List Oper} :VN [] l=l:=rfl
@[go_sem] theorem ZdM {m ms} {l:List Oper} :VN (m::ms) l=VN ms (Qy m l):=rfl
theorem Wr {P:Program} {H:List Obj} {f azs} {a b:PV} {B:V->Prop} {t} (h:ACalls P f azs [] fun x H'=>x= .tup [.p a,.p b]/\H'= []) (k:B (.tup [.p a,.p b])) (ha:Xd 0 azs=true:=by rfl) :
  R4 (fun y=>ACalls P f azs H (Zt (Zt (fun x H'=>x=y/\H'=H) ⟨⟩) ⟨⟩)) (Zt B t) :=
 ⟨.tup [.p a,.p b],(h.behind ha H).mono fun x H' hq=>by
  obtain ⟨y,H1,⟨rfl,rfl⟩,rfl,rfl⟩:=hq
  simp [shV,shVs,Zt],k⟩
def N3 (l:List Oper):List (Nat×V)->List V->List V
 | [],fr=>fr
 | (m,y)::dn,fr=>Y9 (N3 l dn fr) (ZV l m).dst y
theorem B1 (l:List Oper): ∀(dn:List (Nat×V)) (fr:List V),(N3 l dn fr).length=fr.length
 | [],_=>rfl
 | (m,y)::dn,fr=>by rw [N3,oX,B1 l dn fr]
theorem Ic (l:List Oper) {x:V} {t:Nat} : ∀(dn:List (Nat×V)) (fr:List V),(N3 l dn fr)[t]? =some x->(∃p,p∈dn/\(ZV l p.1).dst=some t/\x=p.2/\t<fr.length)\/fr[t]? =some x
 | [],_,h=> .inr h
 | (m,y)::dn,fr,h=>by
  rcases oW h with ⟨h1,h2,h3⟩ | ⟨_,h2⟩
  ·exact .inl ⟨(m,y),Zb,h1,h2,by rw [B1] at h3;exact h3⟩
  ·rcases Ic l dn fr h2 with ⟨p,h3,h4⟩ | h3
   ·exact .inl ⟨p,by simp [h3],h4⟩
   ·exact .inr h3
theorem CT (l:List Oper) {R:List Nat} {f1 f2:List V} (hl:f1.length=f2.length) (h:VG R f1 f2): ∀dn,VG R (N3 l dn f1) (N3 l dn f2)
 | []=>h
 | (m,y)::dn=>fun t ht=>by
  have ih:=CT l hl h dn t ht
  have hl2:(N3 l dn f1).length=(N3 l dn f2).length:=by grind [B1]
  simp only [N3]
  cases (ZV l m).dst with
  | none=>exact ih
  | some d =>
   grind [Y9,V8,LA]
def VC (l:List Oper) (rem:List Nat):List Nat:=rem.filter fun m=>rem.all fun m'=> !(ZR m (ZV l m)).contains m'
def QR (P:Program) (H:List Obj) (l:List Oper):Nat->List Nat->List V->List Obj->(List V->List Obj->Prop)->Prop
 | 0,_,fr,L,K=>K fr L
 | n+1,rem,fr,L,K=> ∀m∈VC l rem,∃y L',Zr P (ZV l m) fr (H++L) (fun x H'=>x=y/\H'=H++L')/\QR P H l n (rem.erase m) (Y9 fr (ZV l m).dst y) L' K
def ZfQ (P:Program) (F:Nat->Prop) (H:List Obj) (l:List Oper) (ms:List Nat) (bs:List V) (K:List V->List Obj->Prop) (ds:List (Option Nat)) (fr vals:List V) (n:Nat) (ι0:List (Option Nat)) (w0:World) (listed:Array Bool) (a:Act) (w:World):Prop :=
 ∃(rem:List Nat) (dn:List (Nat×V)) (L:List Obj),rem.Nodup/\(∀m∈rem,m∈ms)/\(∀m∈ms,listed.getD m false=decide (m ∉ rem))/\(∀p∈dn,p.1∈ms/\p.1 ∉ rem)/\QR P H l rem.length rem (N3 l dn bs) L K /\
  ∃ι ιL,ι.length=H.length/\Mid (Own F ιL) H ds fr vals n listed ι a w/\Good F H ι0 w0 (H++L) (ι++ιL) w /\
   ∀p∈dn,∀d,(ZV l p.1).dst=some d->d<fr.length->RV F (H++L) (ι++ιL) w p.2 (a.tmps.getD d undef)
theorem MX {P:Program} {ops:Array Oper} {Q:Exit->Act->World->Prop} {F H fr vals} {n:Nat} {l:List Oper} {ms:List Nat} {K:List V->List Obj->Prop} (hol:ops.toList=l) (hB:Vb ops n=true) (hvl:vals.length=n)
  (hms: ∀m∈ms,m<n/\ops[m]? =some (ZV l m)/\(ZV l m).guard=none/\vals[m]? =some .junk)
  (hrd: ∀m∈ms,∀t∈WI (ZV l m).op,∀j,j<n->(ops.toList.map (·.dst))[j]? =some (some t)->j∈ZR m (ZV l m))
  (hok: ∀(i:Nat) (o:Oper),i<n->i ∉ ms->ops[i]? =some o->FA P (ops.toList.map (·.dst)) (Z0 ((ops.toList.map (·.dst)).take n) fr) H vals i o) {ι0 w0}
  (ht: ∀fr' L ι a w,K fr' L->Good F H ι0 w0 (H++L) ι w->Fr F (H++L) ι w fr' a->wpList P ops Q (ops.toList.drop n) a w) :
  ∀(u:Nat) (listed:Array Bool) (a:Act) (w:World),HeadInv .any ops n listed->((List.range n).filter fun i=> !listed.getD i false).length=u ->
   ZfQ P F H l ms (ZE (ops.toList.map (·.dst)) vals (List.range n) (Z0 ((ops.toList.map (·.dst)).take n) fr)) K (ops.toList.map (·.dst)) fr vals n ι0 w0 listed a w->wpAny P .any ops Q (u+(ops.size-n)) listed a w:=by
 simp only [Vb,ZO,Zl,Wg] at hB;obtain ⟨⟨⟨⟨hn,hsc⟩,hea⟩,hap⟩,hseq⟩:=hB
 have hdl:n<=(ops.toList.map (·.dst)).length:=by grind
 -- the frame at late operations done, azs far azs is listed
 have frAt: ∀ {dn:List (Nat×V)} {L:List Obj} {listed:Array Bool} {ι ιL:List (Option Nat)} {a:Act} {w:World} (ls:List Nat),(∀j∈ls,j<n/\listed.getD j false=true)->Mid (Own F ιL) H (ops.toList.map (·.dst)) fr vals n listed ι a w ->
   (∀p∈dn,∀d,(ZV l p.1).dst=some d->d<fr.length->RV F (H++L) (ι++ιL) w p.2 (a.tmps.getD d undef)) ->
   Fr F (H++L) (ι++ιL) w (N3 l dn (ZE (ops.toList.map (·.dst)) vals ls (Z0 ((ops.toList.map (·.dst)).take n) fr))) a:=fun {dn L listed ι ιL a w} ls hls mid slot=>by
  obtain ⟨f1,f2,f3⟩:=mid.fr ls hls;refine ⟨by rw [B1];exact f1,f2,fun t x hx=> ?_⟩;rcases Ic l dn _ hx with ⟨p,h1,h2,rfl,h4⟩ | h1
  ·grind [YE,YW]
  ·exact (f3 t x h1).widen
 intro u
 induction u with
 | zero =>
  intro listed a w inv hm mid
  have hall: ∀i,i<n->listed.getD i false=true:=fun i hi=>by
   have h0:=Zy hm
   have:i ∉ (List.range n).filter fun i=> !listed.getD i false:=by rw [h0];simp
   grind
  have hl:listed=Array.replicate n true++Array.replicate (ops.size-n) false:=by
   refine Array.ext (by simp [inv.size];omega) fun i h1 h2=> ?_
   by_cases hi:i<n
   ·have:=hall i hi;rw [Array.getElem_append_left (by grind)];simp [h1] at this;simp [this]
   ·have:=inv.tail i Za (by grind);rw [Array.getElem_append_right (by simp;omega)];simp [h1] at this;simp [this]
  obtain ⟨rem,dn,L,hnd,hrm,hst,hdn,hlt,ι,ιL,hιl,mid,gd,slot⟩:=mid
  have hs:rem= []:=by
   cases rem with
   | nil=>rfl
   | cons m r =>
    have h1:=hst m (hrm m Zb)
    grind
  subst hs;have hw:=ht _ L (ι++ιL) a w hlt gd (frAt (List.range n) (fun j hj=>⟨ZQ.1 hj,hall j (ZQ.1 hj)⟩) mid slot);have:=wpAny_of_seq (md:= .any) (Q':=Q) (ops.toList.drop n) n listed a w (fun j=>Zb) (by grind) hw
  grind
 | succ u ih =>
  intro listed a w inv hm mid
  have hun: ∃i,i<n/\listed.getD i false=false:=by
   cases hf:(List.range n).filter fun i=> !listed.getD i false with
   | nil=>grind
   | cons i l =>
    have:i∈(List.range n).filter fun i=> !listed.getD i false:=by rw [hf];simp
    grind
  have hsz: ∀ {i},i<n->i<listed.size:=fun h=>by rw [inv.size];omega
  have hready:Region.ready .any ops listed≠ []:=by
   obtain ⟨i,hi,hu⟩:=hun
   have: ∃i,i<n/\listed.getD i false=false/\ ∀j,j<i->listed.getD j false=true:=by
    induction i using Nat.strongRecOn with
    | _ i ihh =>
     by_cases hex: ∃j,j<i/\listed.getD j false=false
     ·obtain ⟨j,hj,hju⟩:=hex;exact ihh j hj Za hju
     grind
   obtain ⟨i,hi,hu,hmin⟩:=this;intro h0
   have:i∈Region.ready .any ops listed:=by
    have hlt:i<ops.size:=Za
    refine mem_ready.2 ⟨getD_in (hsz hi) hu,ops[i],by simp [hlt],fun e he hb=> ?_⟩;have h1:=Zv.1 hea i (ZQ.2 hi)
    grind [Array.all_eq_true_iff_forall_mem]
   grind
  rw [show u+1+(ops.size-n)=(u+(ops.size-n))+1 by omega];refine ⟨fun h0=>absurd h0 hready,fun i hi=> ?_⟩
  have hin:i<n:=by
   rcases hsc with h | ⟨hs,hc⟩
   ·obtain ⟨_,o,ho,_⟩:=mem_ready.1 hi
    grind
   ·rcases Wh i n with h | h
    ·exact h
    ·obtain ⟨k,hk,hu⟩:=hun
     by_cases hne:n<ops.size
     ·exact absurd hi (tail_waits hs hc hne inv _ k rfl hk (getD_in (hsz hk) hu) i h)
     grind [mem_ready]
  obtain ⟨hiu,o,ho,hall⟩:=mem_ready.1 hi
  have hds:(ops.toList.map (·.dst))[i]? =some o.dst:=by simp [ho]
  have hdeps: ∀j∈ZR i o,j<n/\listed.getD j false=true:=fun j hj=>by
   refine ⟨by have:=Wp j hj;omega,?_⟩;simp [ZR] at hj
   grind
  have hcount:((List.range n).filter fun k=> !(listed.setIfInBounds i true).getD k false).length=u:=by
   have e:((List.range n).filter fun k=> !(listed.setIfInBounds i true).getD k false)=((List.range n).filter fun k=> !listed.getD k false).filter (fun k=>k≠i):=by
    rw [List.filter_filter];refine U7 fun k hk=> ?_
    by_cases hki:k=i
    ·subst hki;simp [hsz hin]
    ·rw [getD_set_ne false (fun h=>hki h.symm)];simp [hki]
   rw [e]
   have hmem:i∈(List.range n).filter fun k=> !listed.getD k false:=by
    grind
   have hnd:((List.range n).filter fun k=> !listed.getD k false).Nodup:=List.nodup_range.filter _;have:=List.Nodup.erase_eq_filter hnd i
   grind
  have next: ∀v w',ZfQ P F H l ms (ZE (ops.toList.map (·.dst)) vals (List.range n) (Z0 ((ops.toList.map (·.dst)).take n) fr)) K (ops.toList.map (·.dst)) fr vals n ι0 w0 (listed.setIfInBounds i true) (a.put o.dst v) w'->wpAny P .any ops Q (u+(ops.size-n)) (listed.setIfInBounds i true) (a.put o.dst v) w':=fun v w' h =>
   ih _ _ w' (inv.set hi hin) hcount h
  have hiu2:listed.getD i false=false:=getD_both hiu;obtain ⟨rem,dn,L,hnd,hrm,hst,hdn,hlt,ι,ιL,hιl,mid,gd,slot⟩:=mid
  -- a slot that this operation does not write
  have hoth: ∀ {e:Nat} {v:Value},o.dst≠some e->((a.put o.dst v).tmps).getD e undef=a.tmps.getD e undef:=fun {e v} hne=>by
   cases hdst:o.dst with
   | none=>rfl
   | some d =>
    have hne2:d≠e:=fun h=>hne (by rw [hdst,h]);simp [Act.put,ZI,U6 hne2]
  have hapart: ∀ {j e:Nat},j<n->j≠i->(ops.toList.map (·.dst))[j]? =some (some e)->o.dst≠some e:=fun {j e} hj hji hd h=>by
   have:=Zv.1 (Zv.1 hap i (ZQ.2 hin)) j (ZQ.2 hj)
   grind
  have hdm: ∀m∈ms,(ops.toList.map (·.dst))[m]? =some (ZV l m).dst:=fun m hm=>by
   grind
  unfold wpOp;simp only [ho]
  by_cases him:i∈ms
  ·-- a late one
   obtain ⟨_,hom,hgm,hvm⟩:=hms i him;rw [hom] at ho;simp at ho;subst ho
   have hir:i∈rem:=by
    grind
   have hrl:i∈VC l rem:=by
    rw [VC,Vf]
    grind
   obtain ⟨k,hk⟩: ∃k,rem.length=k+1:=⟨rem.length-1,by grind⟩;rw [hk] at hlt;obtain ⟨y,L',hstep,hlt'⟩:=hlt i hrl
   let ls:=(List.range n).filter fun j=>listed.getD j false
   have hls: ∀j∈ls,j<n/\listed.getD j false=true:=fun j hj=>by grind
   have hfr:=frAt (dn:=dn) (L:=L) ls hls mid slot
   have hag:VG (WI (ZV l i).op) (ZE (ops.toList.map (·.dst)) vals ls (Z0 ((ops.toList.map (·.dst)).take n) fr)) (ZE (ops.toList.map (·.dst)) vals (List.range n) (Z0 ((ops.toList.map (·.dst)).take n) fr)) :=
    AP hap hdl hvl (fun j hj=>(hls j hj).1) fun t ht j hj hd=>by
     have:=hdeps j (hrd i him t ht j hj hd);simpa [ls] using this
   have hl:=(J4 (CT l (by simp [YE]) hag dn)).2 hstep
   have hw:Region.wanted (ZV l i) (yielded ops a.tmps)=true:=by simp [Region.wanted,hgm]
   rw [if_pos hw];refine .inl (UU hl gd.rel hfr fun x H' ι' v w' hk g r=> ?_);obtain ⟨hx,rfl⟩:=hk;subst hx
   obtain ⟨ι1,ιL',rfl,hl1⟩: ∃ι1 ιL',ι'=ι1++ιL'/\ι1.length=H.length:=⟨ι'.take H.length,ι'.drop H.length,(List.take_append_drop _ _).symm,by
    have:=g.rel.len;rw [Zn] at this
    simp;omega⟩
   have trans: ∀ {x:V} {v:Value},RV (Own F ιL) H ι w x v->RV (Own F ιL') H ι1 w' x v:=fun {x v} h=>(g.rv h.widen).narrow hl1 h.refB
   have ZE: ∀m∈ms,(listed.setIfInBounds i true).getD m false=decide (m ∉ rem.erase i):=fun m hm=>by
    by_cases e:m=i
    ·subst e;simp [hsz hin,hnd.not_mem_erase]
    ·rw [getD_set_ne false (fun h=>e h.symm),hst m hm]
     grind
   have hpi: ∀p∈dn,p.1≠i:=fun p hp e=>(hdn p hp).2 (e ▸ hir);refine next v w' ⟨rem.erase i,(i,x)::dn,L',hnd.erase i,fun m hm=>hrm m (List.mem_of_mem_erase hm),ZE,fun p hp=> ?_,?_,ι1,ιL',hl1,⟨g.rel.front hl1 mid.rel.refH,?_,?_,fun t z ht' hnt=> ?_,fun j e z hj hlj hd hz hlt=> ?_⟩,gd.trans g,fun p hp d hd hlt=> ?_⟩
   ·rcases Xs.1 hp with rfl | hp
    ·grind
    grind
   ·have:(rem.erase i).length=k:=by grind
    rw [this];exact hlt'
   ·cases (ZV l i).dst<;>simp [Act.put,mid.size]
   ·cases (ZV l i).dst<;>exact mid.defers
   ·rw [hoth (fun e=>hnt (by
     rw [ZL]
     exact ⟨i,by grind⟩))]
    exact trans (mid.old t z ht' hnt)
   ·by_cases hij:j=i
    ·subst hij;rw [hvm] at hz;simp at hz;subst hz;exact .junk _
    ·have hl':listed.getD j false=true:=by rwa [getD_set_ne false (fun h=>hij h.symm)] at hlj
     rw [hoth (hapart hj hij hd)];exact trans (mid.new j e z hj hl' hd hz hlt)
   ·rcases Xs.1 hp with rfl | hp
    ·simp only at hd;rw [hd]
     have:d<a.tmps.size:=by rw [mid.size];exact hlt
     have e2:((a.put (some d) v).tmps).getD d undef=v:=by simp [Act.put,Array.getD,this]
     grind
    ·have hpm:=(hdn p hp).1;rw [hoth (hapart (hms _ hpm).1 (hpi p hp) (by grind))];exact g.rv (slot p hp d hd hlt)
  ·-- another
   obtain ⟨z,hz,hok'⟩:=hok i o hin him ho;have hfr:=mid.fr _ hdeps
   have next': ∀ι' v w',Good (Own F ιL) H ι w H ι' w'->RV (Own F ιL) H ι' w' z v->wpAny P .any ops Q (u+(ops.size-n)) (listed.setIfInBounds i true) (a.put o.dst v) w':=fun ι' v w' g r=>by
    have g2:=Good.front hιl gd.rel g rfl;refine next v w' ⟨rem,dn,L,hnd,hrm,fun m hm=> ?_,hdn,hlt,ι',ιL,g.rel.len,mid.put hap g hin hds hz r,gd.trans g2,fun p hp d hd hlt=> ?_⟩
    ·rw [getD_set_ne false (fun (e:i=m)=>him (e ▸ hm))];grind
    ·have hpm:=(hdn p hp).1;rw [hoth (hapart (hms _ hpm).1 (fun h=>him (h ▸ hpm)) (by grind))];exact g2.rv (slot p hp d hd hlt)
   have run:ZB P o (ZE (ops.toList.map (·.dst)) vals (ZR i o) (Z0 ((ops.toList.map (·.dst)).take n) fr)) H (fun x H'=>x=z/\H'=H)->o.wp P a w (wpAny P .any ops Q (u+(ops.size-n)) (listed.setIfInBounds i true)) Q:=fun h =>
    C4 h mid.rel hfr fun x H' ι' v w' hk g r=>by
     grind
   split at hok'
   ·rename_i hg
    have hw:Region.wanted o (yielded ops a.tmps)=true:=by simp [Region.wanted,hg]
    grind
   ·rename_i j b hg;rcases hok' with ⟨c,hc,h1,h2⟩ | ⟨hc,hyt⟩
    rotate_left
    ·have hyl:=YR hfr hc
     have hw: ¬(Region.wanted o (yielded ops a.tmps)=true):=by grind [Region.wanted]
     rw [if_neg hw];exact next' ι undef w (Good.refl mid.rel) (by grind [Y5])
    have hyl:=WX hfr hc
    by_cases hcb:c=b
    ·have hw:Region.wanted o (yielded ops a.tmps)=true:=by grind [Region.wanted]
     grind
    ·have hw: ¬(Region.wanted o (yielded ops a.tmps)=true):=by grind [Region.wanted]
     rw [if_neg hw];exact next' ι undef w (Good.refl mid.rel) (by grind [Y5])
def EG (l : List Oper) (n : Nat) (ms : List Nat) : Bool :=
  (ms.all fun m => decide (m < n) && decide (m < l.length) && ((ZV l m).guard.isNone && (WI (ZV l m).op).all fun t => (List.range n).all fun j => match (l.map (·.dst))[j]? with
        | some (some d) => decide (d ≠ t) || (ZR m (ZV l m)).contains j
        | _ => true)) && decide ms.Nodup
theorem Xa (ms:List Nat) {P:Program} {id:Nat} {l:List Oper} {fr:List V} {H:List Obj} {Q:Exit->List V->List Obj->Prop} {t} (n:Nat) (hm:P.follows .mixedOrders=true) (hB:Vb (List.toArray l) n=true) (hR:Kt (List.toArray (VN ms l)) n=true) (hL:EG l n ms=true) (hfl:fr.length<=1000000)
  (h:hs P (l.map (·.dst)) H (Zt (fun fr'=>QR P H l ms.length ms (idF fr') [] (Zt (fun fr2 L=>YC P (l.map (·.dst)) (l.drop n) fr2 (H++L) (Zt (Q .normal) ⟨⟩)) ⟨⟩)) ⟨⟩) ((VN ms l).take n) (idF fr)) :
  AWP P (.region id (Zt (List.toArray l) t) true) fr H Q:=fun F ι a w hr hf=>by
 refine wp_region_any hm ?_;have hB':=hB;simp only [Vb,ZO,Zl] at hB';obtain ⟨⟨⟨⟨hn,_⟩,_⟩,hap⟩,_⟩:=hB'
 have hn2:n<=l.length:=Za
 simp only [EG,ZO,Zv,Zl] at hL;obtain ⟨hL1,hL3⟩:=hL;have hds:(VN ms l).map (·.dst)=l.map (·.dst):=EN ms l;have hh:=Ph (P:=P) (H:=H) (ops:=List.toArray (VN ms l)) (n:=n) (fr:=fr) (K:=fun fr'=>QR P H l ms.length ms fr' [] (fun fr2 L=>YC P (l.map (·.dst)) (l.drop n) fr2 (H++L) (Q .normal))) (by grind [EO]) (by grind) hR _ 0 [] (Nat.zero_le _) rfl (by simp;rfl) (by simp_all [ZE,Zt,idF]);obtain ⟨ys,h1,⟨h2a,h2b⟩,h3⟩:=Bw _ 0 [] rfl hh;simp only [Xk,hds] at h2a h2b h3;have hlen:ys.length=n:=h2a
 have g0:=Good.drew hr;have hf0:=g0.fr hf;have hget: ∀k,k<n->((VN ms l).take n)[k]? =(VN ms l)[k]? :=fun k hk=>UI hk;have hjl:(Z0 ((l.map (·.dst)).take n) fr).length=fr.length:=YW _ _
 have hlat: ∀m∈ms,m<n/\l[m]? =some (ZV l m)/\(ZV l m).guard=none:=fun m hm=>by
  obtain ⟨⟨h4,h5⟩,h6,_⟩:=hL1 m hm;exact ⟨h4,by grind [BA],by simpa using h6⟩
 have hvm: ∀m∈ms,ys[m]? =some .junk:=fun m hm=>by
  obtain ⟨q1,q2,q3⟩:=hlat m hm;obtain ⟨z,hy,hk⟩:=h3 m (JS (ZV l m)) (by grind [DM]);rw [XJ] at hy;have e1:(JS (ZV l m)).guard=none:=q3;rw [e1] at hk;simp only [JS,ZB,Zr,X1,YD,Hk,Z3] at hk
  have hk2:gt (ZE (l.map (·.dst)) ys (ZR (0+m) { ZV l m with op:= .move (.tmp 1000000) }) (Z0 ((l.map (·.dst)).take n) fr)) 1000000=z:=by grind [ev]
  grind [NJ,YE]
 have hfin:ZE (l.map (·.dst)) ys (List.range n) (Z0 ((l.map (·.dst)).take n) fr)=ZE (l.map (·.dst)) ys (List.range n) fr:=EA hap (by grind) hlen
 have:=MX (Q:=fun e a' w'=> ∃fr' H' ι',Q e fr' H'/\Good F H ι w H' ι' w'/\Fr F H' ι' w' fr' a') (F:=F) (fr:=fr) (vals:=ys) (P:=P) (H:=H) (l:=l) (ms:=ms) (K:=fun fr2 L=>YC P (l.map (·.dst)) (l.drop n) fr2 (H++L) (Q .normal)) (ops:=List.toArray l) (ι0:=ι) (w0:= { w with drawn:=w.drawn+1 }) rfl hB hlen
  (fun m hm=>⟨(hlat m hm).1,by grind,(hlat m hm).2.2,hvm m hm⟩)
  (fun m hm t ht j hj hd=>by
   obtain ⟨_,_,h5⟩:=hL1 m hm;have h6:=h5 t ht j (ZQ.2 hj);simp only at hd;rw [hd] at h6
   grind)
  (fun i o hi him ho=>by
   have:=h3 i o (by
    grind [BO])
   grind)
  (fun fr2 L ι1 a1 w1 k1 g1 f1=>Yu (P:=P) (ops:=List.toArray l) _ _ (H++L) _ k1 F ι1 a1 w1 g1.rel f1 fun fr' H' ι' a' w' k g f=>⟨fr',H',ι',k,g0.trans (g1.trans g),f⟩)
  n (Array.replicate l.length false) a { w with drawn:=w.drawn+1 }
  ⟨Zb,fun j oj _ hl=>(by grind [getD_replicate_false]),fun t _ ht=>getD_in (by grind) (getD_replicate_false _ _)⟩
  (by
   grind [List.filter_eq_self,getD_replicate_false])
  ⟨ms,[],[],hL3,fun m hm=>hm,fun m hm=>by grind [getD_replicate_false],fun p hp=>(by cases hp),by
    grind [N3],ι,[],hr.len,by
   have g1:Rel F (H++ []) (ι++ []) { w with drawn:=w.drawn+1 } :=by simpa using g0.rel
   have r1:=g1.front hr.len hr.refH
   exact ⟨r1,hf0.1,hf0.2.1,fun t x ht _=>RV.narrow (L:= []) hr.len (by simpa using hf0.2.2 t x ht) (hf0.2.2 t x ht).refB,fun j d x _ hl=>by grind [getD_replicate_false]⟩,
   by simpa using Good.refl g0.rel,fun p hp=>(by cases hp)⟩
 grind [Zt]
theorem X5 {P H l rem fr L K} (h:K fr L):QR P H l 0 rem fr L K:=h
theorem Pv {P H l n rem fr L K} (rs:List Nat) (hr:VC l rem=rs) (h: ∀m∈rs,∃y L',Zr P (ZV l m) fr (H++L) (fun x H'=>x=y/\H'=H++L')/\QR P H l n (rem.erase m) (Y9 fr (ZV l m).dst y) L' K):QR P H l (n+1) rem fr L K:=fun m hm=>h m (hr ▸ hm)
theorem ZF {P H l n rem fr L K} (m:Nat) (y:V) (L':List Obj) (hr:VC l rem= [m]) (h:Zr P (ZV l m) fr (H++L) (fun x H'=>x=y/\H'=H++L')) (k:QR P H l n (rem.erase m) (Y9 fr (ZV l m).dst y) L' K):QR P H l (n+1) rem fr L K :=
 Pv [m] hr fun m' hm'=>by
  grind
theorem Gv {P H l n rem fr L K} (m m2:Nat) (y:V) (L':List Obj) (y2:V) (L2:List Obj) (hr:VC l rem= [m,m2]) (h:Zr P (ZV l m) fr (H++L) (fun x H'=>x=y/\H'=H++L')) (h2:Zr P (ZV l m2) fr (H++L) (fun x H'=>x=y2/\H'=H++L2))
  (k:QR P H l n (rem.erase m) (Y9 fr (ZV l m).dst y) L' K) (k2:QR P H l n (rem.erase m2) (Y9 fr (ZV l m2).dst y2) L2 K):QR P H l (n+1) rem fr L K :=
 Pv [m,m2] hr fun m' hm'=>by
  grind
def Ke : Op->Bool
 | .move _=>true
 | .assign _=>true
 | .binOp _ _ _ _ _=>true
 | .unOp _ _ _=>true
 | .pick _ _ _=>true
 | _=>false
theorem AA {P:Program} {o:Oper} (h:Ke o.op=true) {fr:List V} {H H2:List Obj} {y:V} (k:ZB P o fr H (fun x H'=>x=y/\H'=H)):ZB P o fr H2 (fun x H'=>x=y/\H'=H2):=by
 have key: ∀(f:List Obj->Option V),(∀A B,f A=f B)->(match (match f H with | some x=>some (x,H) | none=>(none:Option (V×List Obj))) with | some (x,H')=>x=y/\H'=H | none=>False)->(match (match f H2 with | some x=>some (x,H2) | none=>(none:Option (V×List Obj))) with | some (x,H')=>x=y/\H'=H2 | none=>False):=fun f hf hk=>by
  rw [hf H2 H]
  cases hfh:f H with
  | none=>grind
  | some x=>grind
 unfold ZB Zr at k ⊢
 cases hop:o.op with
 | move x=>rw [hop] at k;simp only [YD,Hk,Z3,X1] at k ⊢;omega
 | assign x=>rw [hop] at k;simp only [YD,Hk,Z3,X1] at k ⊢;omega
 | binOp a b c d e =>
  grind [YD,Hk,Z3,X1,Wn]
 | unOp a b c =>
  grind [YD,Hk,Z3,X1,Wn]
 | pick c x z =>
  grind [YD,Hk,Z3,X1,Wn]
 | _=>rw [hop] at h;cases h
theorem LC {P:Program} {ds:List (Option Nat)} {fr vals:List V} {H H2:List Obj} {i:Nat} {o:Oper} (h:Ke o.op=true) (k:FA P ds fr H vals i o):FA P ds fr H2 vals i o:=by
 obtain ⟨y,h1,h2⟩:=k;refine ⟨y,h1,?_⟩
 split at h2
 ·exact AA h h2
 ·rcases h2 with ⟨c,q1,q2,q3⟩ | q
  ·exact .inl ⟨c,q1,fun e=>AA h (q2 e),q3⟩
  grind
def C3 (l:List Oper):Nat->Nat->Nat->Bool
 | 0,_,_=>false
 | f+1,i,m=>(ZR m (ZV l m)).any fun j=>decide (j=i)||C3 l f i j
theorem AH {l:List Oper} {ops:Array Oper} (hol:ops.toList=l) {n:Nat} {listed:Array Bool} (inv:HeadInv .any ops n listed): ∀(f i m:Nat),m<l.length->C3 l f i m=true->(∀j∈ZR m (ZV l m),listed.getD j false=true)->listed.getD i false=true
 | 0,_,_,_,h,_=>by cases h
 | f+1,i,m,hm,h,hd=>by
  rw [C3,UM] at h;obtain ⟨j,hj,h⟩:=h;rw [Wg] at h;rcases h with h | h
  ·grind
  ·have hjm:j<m:=Wp j hj
   have hjl:j<l.length:=Za
   refine AH hol inv f i j hjl h fun k hk=> ?_
   have ho:ops[j]? =some (ZV l j):=by
    grind [BA]
   simp [ZR] at hk;obtain ⟨e,⟨he,hb,_⟩,rfl⟩:=hk;exact inv.closed j _ ho (hd j hj) e he hb
@[go_sem] theorem Zjy {H:List Obj} {n cs cs'} :Fu H n (.tup cs) (.tup cs')=(cs'=cs/\Xd n cs=true):=by simp [Fu,kA,refB]
def eII (p:Int×Int):PV×PV:=(.int .i64 p.1,.int .i64 p.2)
def eT (P:Program) (t:TypeId):Option (TypeDesc×Option PV):=match P.underlying t with
 | some (.map kt et)=>(P.underlying kt).map fun d=>(d,zval P et)
 | _=>none
def GC (l:List (Int×Int)) (k:Int):Option Nat:=l.findIdx? fun p=>decide (k=p.1)
def Kj (l:List (Int×Int)) (k:Int):Int:=match GC l k with | some i=>((l[i]?).map (·.2)).getD 0 | none=>0
theorem CH (k:Int): ∀(l:List (Int×Int)) (n:Nat),Qb (.int .i64 k) (l.map eII) n=(GC l k).map fun i=>(n+i,.int .i64 (((l[i]?).map (·.2)).getD 0))
 | [],n=>by rfl
 | p::l,n=>by
  have ih:=CH k l (n+1);simp only [Zu,Qb,eII,keq]
  by_cases h:k=p.1
  ·simp [h,GC,List.findIdx?_cons]
  ·simp only [h,Jv,Yo,Yr];rw [ih];simp only [GC,List.findIdx?_cons,h,Jv,Yo,Yr]
   cases l.findIdx? (fun p=>decide (k=p.1)) with
   | none=>rfl
   | some i=>simp;omega
theorem LS {P t d z} (h:eT P t=some (d,z)): ∃kt et,P.underlying t=some (.map kt et)/\P.underlying kt=some d/\zval P et=z:=by
 unfold eT at h
 split at h
 ·rename_i kt et hu;simp only [ZA,Jq] at h
  grind
 ·cases h
theorem Gw {P:Program} {H:List Obj} {kt:TypeId} {o:Nat} {l:List (Int×Int)} {k:Int} (hd:P.underlying kt=some (.int .i64)) (hH:oat H o= .map (l.map eII)):BL P H kt (.int .i64 k) o=some (l.map eII):=by
 simp [BL,hH,mkey,hd,eII,kpair]
theorem EK {l:List (Int×Int)} {k:Int} {i:Nat} (h:GC l k=some i): ∃v,l[i]? =some (k,v)/\Kj l k=v:=by
 grind [GC,VY,Kj]
section
variable {P : Program} {H : List Obj} {t : TypeId} {o : Nat} {l : List (Int × Int)} {k : Int} {K : V -> List Obj -> Prop}
theorem LP (hT:eT P t=some (.int .i64,some (.int .i64 0))) (hH:oat H o= .map (l.map eII)) (h:K (.p (.int .i64 (Kj l k))) H):AC (Bc P H t (.mp o) (.p (.int .i64 k)) false) K:=by
 obtain ⟨kt,et,h1,h2,h3⟩:=LS hT;simp only [Bc,h1,Gw h2 hH,U8,CH,h3]
 grind [Kj,AC]
theorem NS {i:Nat} {v:Int} (hH:oat H o= .map (l.map eII)) (hm:GC l k=some i) (h:(∀q,Kj (l.set i (k,v)) q=if q=k then v else Kj l q)->K .junk (H.set o (.map ((l.set i (k,v)).map eII)))):AC (KN H (.mp o) (.p (.int .i64 (i:Nat))) (.p (.int .i64 v))) K:=by
 obtain ⟨u,q1,q2⟩:=EK hm;have hil:=(ZT.1 q1).1
 have e1:(l.map eII)[i]? =some (eII (k,u)):=by grind
 simp only [KN,hH,Int.natCast_nonneg,if_true,X6,e1,AC]
 have e2:(l.map eII).set i ((eII (k,u)).1,.int .i64 v)=(l.set i (k,v)).map eII:=by rw [Uh];rfl
 rw [e2];refine h fun q=> ?_
 have hkeys: ∀j:Nat,((l.set i (k,v))[j]?).map Prod.fst=(l[j]?).map Prod.fst:=fun j=>by
  grind
 have hmix: ∀q,GC (l.set i (k,v)) q=GC l q:=fun q=>by
  have key: ∀(a b:List (Int×Int)),a.map Prod.fst=b.map Prod.fst->GC a q=GC b q:=fun a b hab=>by
   have e: ∀c:List (Int×Int),GC c q=(c.map Prod.fst).findIdx? fun z=>decide (q=z):=fun c=>by
    rw [List.findIdx?_map];rfl
   grind
  refine key _ _ (JD fun j=> ?_)
  grind
 unfold Kj;rw [hmix]
 by_cases hq:q=k
 ·grind
 ·rw [if_neg hq]
  grind [EK]
end
end Go.AM
