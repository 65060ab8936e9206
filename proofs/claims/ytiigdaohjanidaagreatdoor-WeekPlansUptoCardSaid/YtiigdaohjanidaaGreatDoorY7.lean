/- Declarations that the closing texts need, part 7: joined by tools/slim.py. -/
import Derived.Test.YtiigdaohjanidaaGreatDoorY6
import Derived.Lib.LazyBuf
set_option linter.unusedVariables false
set_option linter.unusedSimpArgs false
namespace Go.AM
open Go.RowKit
@[go_sem ↓] theorem ZcB {P ds o l m fr H K} :Yz P ds (List.append (o::l) m) fr H K=Yz P ds (o::List.append l m) fr H K:=rfl
@[go_sem ↓] theorem ZcD {P ds m fr H K} :Yz P ds (List.append [] m) fr H K=Yz P ds m fr H K:=rfl
@[go_sem] theorem Zdi {α:Type} {x:α} {l m} :List.append (x::l) m=x::List.append l m:=rfl
@[go_sem] theorem Zhx {α:Type} {m:List α} :List.append [] m=m:=rfl
theorem VU {P:Program} {ops:Array Oper} {Q:Exit->Act->World->Prop} {r:List Oper} : ∀(l:List Oper) (fr:List V) (H:List Obj) (K:List V->List Obj->Prop),Yz P (ops.toList.map (·.dst)) l fr H K ->
  ∀F ι a w,Rel F H ι w->Fr F H ι w fr a ->
   (∀fr' H' ι' a' w',K fr' H'->Good F H ι w H' ι' w'->Fr F H' ι' w' fr' a'->wpList P ops Q r a' w')->wpList P ops Q (l++r) a w
 | [],fr,H,K,h,F,ι,a,w,hr,hf,hq=>hq fr H ι a w h (Good.refl hr) hf
 | o::l,fr,H,K,h,F,ι,a,w,hr,hf,hq=>by
  have step: ∀ {fr:List V} {a:Act},Fr F H ι w fr a->Zx P o fr H (fun x H'=>Yz P (ops.toList.map (·.dst)) l (Y7 fr o.dst x) H' K)->o.wp P a w (wpList P ops Q (l++r)) Q:=fun hf h =>
   UP h hr hf fun x H' ι' v w' hk g q=>VU l _ H' K hk F ι' _ w' g.rel ((g.fr hf).put o.dst q)
    fun fr' H2 ι2 a' w2 k2 g2 f2=>hq fr' H2 ι2 a' w2 k2 (g.trans g2) f2
  simp only [Yz] at h;simp only [ZP,wpList]
  split at h
  ·rename_i hg
   have hw:Region.wanted o (yielded ops a.tmps)=true:=by simp [Region.wanted,hg]
   rw [if_pos hw];exact .inl (step hf h)
  ·rename_i j b hg;unfold Xp at h
   split at h
   rotate_left
   ·rename_i hc;have hy:=YR hf hc
    have hw: ¬(Region.wanted o (yielded ops a.tmps)=true):=by simp [Region.wanted,hg,hy]
    rw [if_neg hw];exact VU l _ H K h F ι _ w hr (hf.put o.dst Y4) hq
   ·exact h.elim
   rename_i c hc;have hy:=WT hf hc
   by_cases hcb:c=b
   ·have hw:Region.wanted o (yielded ops a.tmps)=true:=by simp [Region.wanted,hg,hy,hcb]
    rw [if_pos hw];exact .inl (step hf (h.1 hcb))
   ·have hw: ¬(Region.wanted o (yielded ops a.tmps)=true):=by simp [Region.wanted,hg,hy,hcb]
    rw [if_neg hw];exact VU l _ H K (h.2 hcb) F ι _ w hr (hf.put o.dst Y4) hq
theorem RV.refB {F H ι w x v} (h:RV F H ι w x v):refB H.length x=true:=by
 have lt: ∀ {o:Nat} {ob:Obj},H[o]? =some ob->o<H.length:=fun h=>(Zt.1 h).1
 have all: ∀(l:List V),(∀(j:Nat) (c:V),l[j]? =some c->AM.refB H.length c=true)->Xb H.length l=true:=fun l=>by
  induction l with
  | nil=>intro _;rfl
  | cons x l ih=>intro h;simp only [Xb,ZG];exact ⟨h 0 x rfl,ih fun j c hj=>h (j+1) c (by grind)⟩
 induction h with
 | p=>rfl
 | agg cs a hs _ ih=>exact all cs ih
 | fn f cs ds a e hs ht _ _ ih1 ih2=>simp only [AM.refB,ZG];grind
 | tup cs a hs _ ih=>exact all cs ih
 | ptr o off b cs h hH=>simp [AM.refB,lt hH]
 | ep o i j tot b S xs h hH ht=>simp [AM.refB,lt hH]
 | slNil o S a h hH=>simp [AM.refB,lt hH]
 | sl o off len tot b S cap t xs c h hH=>simp [AM.refB,lt hH]
 | lp=>rfl
 | mp o b es h hH=>simp [AM.refB,lt hH]
 | mpD o v h=>simp [AM.refB,lt h]
 | bp o b T E r bs h hH=>simp [AM.refB,lt hH]
 | bpD o v h=>simp [AM.refB,lt h]
 | junk=>rfl
 | ptrD o off v h=>simp [AM.refB,lt h]
 | epD o i j tot v h=>simp [AM.refB,lt h]
 | slD o off len tot v h=>simp [AM.refB,lt h]
 | epS o i j tot v S xs h hne=>simp [AM.refB,lt h]
 | slS o off len tot v S xs h hne=>simp [AM.refB,lt h]
 | slC o tot b cap cs h hH hl hm=>simp [AM.refB,lt hH]
theorem Rel.refH {F H ι w} (h:Rel F H ι w):refH H.length H=true:=by
 rw [AM.refH,ZC];intro ob hm;obtain ⟨o,ho⟩:=XD.1 hm
 cases ob with
 | cells cs =>
  obtain ⟨b,c,t,_,_,_,h4⟩:=h.cel o cs ho
  have: ∀(l:List V),(∀x∈l,refB H.length x=true)->Xb H.length l=true:=fun l=>by
   induction l with
   | nil=>intro _;rfl
   | cons x l ih=>simp_all [Xb]
  exact this cs fun x hx=>by
   obtain ⟨j,hj⟩:=XD.1 hx;exact (h4 j x hj).refB
 | elems=>rfl
 | map=>rfl
 | bld T E r bs=>simpa using (Zt.1 (h.bldr o T E r bs ho).2.1).1
 | dead=>rfl
def JJ (o:Oper):Oper:= { o with op:= .move (.tmp 1000000) }
def Qt : Nat->List Oper->List Oper
 | _,[]=> []
 | 0,o::l=>JJ o::l
 | m+1,o::l=>o::Qt m l
theorem Ki : ∀(m:Nat) (l:List Oper) (i:Nat),(Qt m l)[i]? =if i=m then (l[i]?).map JJ else l[i]?
 | m,[],i=>by grind [Qt]
 | 0,o::l,0=>by simp [Qt]
 | 0,o::l,i+1=>by simp [Qt]
 | m+1,o::l,0=>by simp [Qt]
 | m+1,o::l,i+1=>by simp [Qt,Ki m l i]
theorem LI : ∀(m:Nat) (l:List Oper),(Qt m l).map (·.dst)=l.map (·.dst)
 | m,[]=>by grind [Qt]
 | 0,o::l=>by rfl
 | m+1,o::l=>by simp [Qt,LI m l]
theorem LJ : ∀(m:Nat) (l:List Oper),(Qt m l).length=l.length
 | m,[]=>by grind [Qt]
 | 0,o::l=>by simp [Qt]
 | m+1,o::l=>by simp [Qt,LJ m l]
theorem Nt : ∀ {fr:List V} {t:Nat},fr.length<=t->gt fr t= .junk
 | [],_,_=>rfl
 | _::_,0,h=>by simp at h
 | _::l,t+1,h=>by simp only [gt];exact Nt (by simpa using h)
@[go_sem] theorem Zdo {o:Oper} {l} :Qt 0 (o::l)=JJ o::l:=rfl
@[go_sem] theorem Zdn {o:Oper} {l m} :Qt (m+1) (o::l)=o::Qt m l:=rfl
@[go_sem] theorem ZhM {d op t ps af g} :JJ ⟨d,op,t,ps,af,g⟩=⟨d,.move (.tmp 1000000),t,ps,af,g⟩:=rfl
theorem nG {fr:List V} {d:Option Nat} {x:V} :(Y7 fr d x).length=fr.length:=by cases d<;>simp [Y7,Ua]
theorem nF {fr:List V} {d:Option Nat} {v x:V} {t:Nat} (h:(Y7 fr d v)[t]? =some x):(d=some t/\x=v/\t<fr.length)\/(d≠some t/\fr[t]? =some x):=by
 cases d with
 | none=>exact .inr ⟨Zb,h⟩
 | some d =>
  simp only [Y7,Ua] at h
  grind
theorem Az {ds:List (Option Nat)} {vals:List V} {n:Nat} (hap:Q3 ds n=true) (hn:n<=ds.length) (hv:vals.length=n) {R:List Nat} {ls:List Nat} (hls: ∀j∈ls,j<n) {fr:List V} (hR: ∀t∈R,∀j,j<n->ds[j]? =some (some t)->j∈ls) :
  VC R (ZF ds vals ls (Z3 (ds.take n) fr)) (ZF ds vals (List.range n) (Z3 (ds.take n) fr)):=fun t ht=>by
 apply F7
 by_cases hex: ∃j,j<n/\ds[j]? =some (some t)
 ·grind [Bg,YD]
 grind [J9]
def VN : List Nat->List Oper->List Oper
 | [],l=>l
 | m::ms,l=>VN ms (Qt m l)
theorem Ew : ∀(ms:List Nat) (l:List Oper),(VN ms l).map (·.dst)=l.map (·.dst)
 | [],_=>rfl
 | m::ms,l=>by rw [VN,Ew ms,LI]
theorem Ex : ∀(ms:List Nat) (l:List Oper),(VN ms l).length=l.length
 | [],_=>rfl
 | m::ms,l=>by rw [VN,Ex ms,LJ]
theorem Bv : ∀(ms:List Nat) (l:List Oper) (i:Nat),i ∉ ms->(VN ms l)[i]? =l[i]?
 | [],_,_,_=>rfl
 | m::ms,l,i,h=>by
  simp at h;rw [VN,Bv ms _ i h.2,Ki,if_neg h.1]
theorem Dx : ∀(ms:List Nat) (l:List Oper) (i:Nat) (o:Oper),i∈ms->l[i]? =some o->(VN ms l)[i]? =some (JJ o)
 | [],_,_,_,h,_=>by cases h
 | m::ms,l,i,o,h,ho=>by
  rw [VN]
  by_cases hi:i∈ms
  ·by_cases e:i=m
   ·subst e;have:=Dx ms (Qt i l) i (JJ o) hi (by rw [Ki,if_pos rfl,ho];rfl);rw [this];rfl
   ·exact Dx ms (Qt m l) i o hi (by rw [Ki,if_neg e];exact ho)
  ·have e:i=m:=by
    grind
   subst e;rw [Bv ms _ _ hi,Ki,if_pos rfl,ho];rfl
def JI (l:List Oper) (n:Nat) (ms:List Nat):Bool :=
 (ms.all fun m=>decide (m<n)&&match l[m]? with
  | some o=>o.guard.isNone&&(WC o.op).all fun t=>(List.range n).all fun j=>match (l.map (·.dst))[j]? with
    | some (some d)=>decide (d≠t)||(ZO m o).contains j
    | _=>true
  | none=>false)&&((List.range (ms.length-1)).all fun s=>match ms[s]?,ms[s+1]? with
   | some a,some b=>match l[b]? with | some o=>(ZO b o).contains a | none=>false
   | _,_=>false)&&(List.range ms.length).all fun s=>(List.range ms.length).all fun t=>decide (s=t)||decide (ms[s]? ≠ms[t]?)
def ZZ : List Oper->Nat->Oper
 | [],_=>default
 | o::_,0=>o
 | _::l,n+1=>ZZ l n
theorem Bk : ∀(l:List Oper) (n:Nat),ZZ l n=l.getD n default
 | [],n=>by simp [ZZ]
 | o::l,0=>rfl
 | o::l,n+1=>by simp [ZZ,Bk l n]
@[go_sem] theorem Zdk {o:Oper} {l} :ZZ (o::l) 0=o:=rfl
@[go_sem] theorem Zdj {o:Oper} {l n} :ZZ (o::l) (n+1)=ZZ l n:=rfl
@[go_sem] theorem ZhN {l:List Oper} :VN [] l=l:=rfl
@[go_sem] theorem Zdp {m ms} {l:List Oper} :VN (m::ms) l=VN ms (Qt m l):=rfl
theorem WW {P:Program} {H:List Obj} {f azs} {a b:PV} {B:V->Prop} {t} (h:ACalls P f azs [] fun x H'=>x= .tup [.p a,.p b]/\H'= []) (k:B (.tup [.p a,.p b])) (ha:Xb 0 azs=true:=by rfl) :
  OQ (fun y=>ACalls P f azs H (Zv (Zv (fun x H'=>x=y/\H'=H) ⟨⟩) ⟨⟩)) (Zv B t) :=
 ⟨.tup [.p a,.p b],(h.behind ha H).mono fun x H' hq=>by
  obtain ⟨y,H1,⟨rfl,rfl⟩,rfl,rfl⟩:=hq
  simp [shV,shVs,Zv],k⟩
def NN (l:List Oper):List (Nat×V)->List V->List V
 | [],fr=>fr
 | (m,y)::dn,fr=>Y7 (NN l dn fr) (ZZ l m).dst y
theorem BH (l:List Oper): ∀(dn:List (Nat×V)) (fr:List V),(NN l dn fr).length=fr.length
 | [],_=>rfl
 | (m,y)::dn,fr=>by rw [NN,nG,BH l dn fr]
theorem HU (l:List Oper) {x:V} {t:Nat} : ∀(dn:List (Nat×V)) (fr:List V),(NN l dn fr)[t]? =some x->(∃p,p∈dn/\(ZZ l p.1).dst=some t/\x=p.2/\t<fr.length)\/fr[t]? =some x
 | [],_,h=> .inr h
 | (m,y)::dn,fr,h=>by
  rcases nF h with ⟨h1,h2,h3⟩ | ⟨_,h2⟩
  ·exact .inl ⟨(m,y),Zb,h1,h2,by rw [BH] at h3;exact h3⟩
  ·rcases HU l dn fr h2 with ⟨p,h3,h4⟩ | h3
   ·exact .inl ⟨p,by simp [h3],h4⟩
   ·exact .inr h3
theorem CB (l:List Oper) {R:List Nat} {f1 f2:List V} (hl:f1.length=f2.length) (h:VC R f1 f2): ∀dn,VC R (NN l dn f1) (NN l dn f2)
 | []=>h
 | (m,y)::dn=>fun t ht=>by
  have ih:=CB l hl h dn t ht
  have hl2:(NN l dn f1).length=(NN l dn f2).length:=by grind [BH]
  simp only [NN]
  cases (ZZ l m).dst with
  | none=>exact ih
  | some d =>
   grind [Y7,Ua,Lo]
def Vy (l:List Oper) (rem:List Nat):List Nat:=rem.filter fun m=>rem.all fun m'=> !(ZO m (ZZ l m)).contains m'
def QJ (P:Program) (H:List Obj) (l:List Oper):Nat->List Nat->List V->List Obj->(List V->List Obj->Prop)->Prop
 | 0,_,fr,L,K=>K fr L
 | n+1,rem,fr,L,K=> ∀m∈Vy l rem,∃y L',Zx P (ZZ l m) fr (H++L) (fun x H'=>x=y/\H'=H++L')/\QJ P H l n (rem.erase m) (Y7 fr (ZZ l m).dst y) L' K
def Zfy (P:Program) (F:Nat->Prop) (H:List Obj) (l:List Oper) (ms:List Nat) (bs:List V) (K:List V->List Obj->Prop) (ds:List (Option Nat)) (fr vals:List V) (n:Nat) (ι0:List (Option Nat)) (w0:World) (listed:Array Bool) (a:Act) (w:World):Prop :=
 ∃(rem:List Nat) (dn:List (Nat×V)) (L:List Obj),rem.Nodup/\(∀m∈rem,m∈ms)/\(∀m∈ms,listed.getD m false=decide (m ∉ rem))/\(∀p∈dn,p.1∈ms/\p.1 ∉ rem)/\QJ P H l rem.length rem (NN l dn bs) L K /\
  ∃ι ιL,ι.length=H.length/\Mid (Own F ιL) H ds fr vals n listed ι a w/\Good F H ι0 w0 (H++L) (ι++ιL) w /\
   ∀p∈dn,∀d,(ZZ l p.1).dst=some d->d<fr.length->RV F (H++L) (ι++ιL) w p.2 (a.tmps.getD d undef)
theorem MJ {P:Program} {ops:Array Oper} {Q:Exit->Act->World->Prop} {F H fr vals} {n:Nat} {l:List Oper} {ms:List Nat} {K:List V->List Obj->Prop} (hol:ops.toList=l) (hB:Va ops n=true) (hvl:vals.length=n)
  (hms: ∀m∈ms,m<n/\ops[m]? =some (ZZ l m)/\(ZZ l m).guard=none/\vals[m]? =some .junk)
  (hrd: ∀m∈ms,∀t∈WC (ZZ l m).op,∀j,j<n->(ops.toList.map (·.dst))[j]? =some (some t)->j∈ZO m (ZZ l m))
  (hok: ∀(i:Nat) (o:Oper),i<n->i ∉ ms->ops[i]? =some o->Fi P (ops.toList.map (·.dst)) (Z3 ((ops.toList.map (·.dst)).take n) fr) H vals i o) {ι0 w0}
  (ht: ∀fr' L ι a w,K fr' L->Good F H ι0 w0 (H++L) ι w->Fr F (H++L) ι w fr' a->wpList P ops Q (ops.toList.drop n) a w) :
  ∀(u:Nat) (listed:Array Bool) (a:Act) (w:World),HeadInv .any ops n listed->((List.range n).filter fun i=> !listed.getD i false).length=u ->
   Zfy P F H l ms (ZF (ops.toList.map (·.dst)) vals (List.range n) (Z3 ((ops.toList.map (·.dst)).take n) fr)) K (ops.toList.map (·.dst)) fr vals n ι0 w0 listed a w->wpAny P .any ops Q (u+(ops.size-n)) listed a w:=by
 simp only [Va,ZG,Zl,Wd] at hB;obtain ⟨⟨⟨⟨hn,hsc⟩,hea⟩,hap⟩,hseq⟩:=hB
 have hdl:n<=(ops.toList.map (·.dst)).length:=by grind
 -- the frame at late operations done, azs far azs is listed
 have frAt: ∀ {dn:List (Nat×V)} {L:List Obj} {listed:Array Bool} {ι ιL:List (Option Nat)} {a:Act} {w:World} (ls:List Nat),(∀j∈ls,j<n/\listed.getD j false=true)->Mid (Own F ιL) H (ops.toList.map (·.dst)) fr vals n listed ι a w ->
   (∀p∈dn,∀d,(ZZ l p.1).dst=some d->d<fr.length->RV F (H++L) (ι++ιL) w p.2 (a.tmps.getD d undef)) ->
   Fr F (H++L) (ι++ιL) w (NN l dn (ZF (ops.toList.map (·.dst)) vals ls (Z3 ((ops.toList.map (·.dst)).take n) fr))) a:=fun {dn L listed ι ιL a w} ls hls mid slot=>by
  obtain ⟨f1,f2,f3⟩:=mid.fr ls hls;refine ⟨by rw [BH];exact f1,f2,fun t x hx=> ?_⟩;rcases HU l dn _ hx with ⟨p,h1,h2,rfl,h4⟩ | h1
  ·grind [YD,YW]
  ·exact (f3 t x h1).widen
 intro u
 induction u with
 | zero =>
  intro listed a w inv hm mid
  have hall: ∀i,i<n->listed.getD i false=true:=fun i hi=>by
   have h0:=Xe hm
   have:i ∉ (List.range n).filter fun i=> !listed.getD i false:=by rw [h0];simp
   grind
  have hl:listed=Array.replicate n true++Array.replicate (ops.size-n) false:=by
   refine Array.ext (by simp [inv.size];omega) fun i h1 h2=> ?_
   by_cases hi:i<n
   ·have:=hall i hi;rw [Array.getElem_append_left (by grind)];simp [h1] at this;simp [this]
   ·have:=inv.tail i Za (by grind);rw [Array.getElem_append_right (by simp;omega)];simp [h1] at this;simp [this]
  obtain ⟨rem,dn,L,hnd,hrm,hst,hdn,hlt,ι,ιL,hιl,mid,gd,slot⟩:=mid
  have hs:rem= []:=by
   cases rem with
   | nil=>rfl
   | cons m r =>
    have h1:=hst m (hrm m Zb)
    grind
  subst hs;have hw:=ht _ L (ι++ιL) a w hlt gd (frAt (List.range n) (fun j hj=>⟨Xa.1 hj,hall j (Xa.1 hj)⟩) mid slot);have:=wpAny_of_seq (md:= .any) (Q':=Q) (ops.toList.drop n) n listed a w (fun j=>Zb) (by grind) hw
  grind
 | succ u ih =>
  intro listed a w inv hm mid
  have hun: ∃i,i<n/\listed.getD i false=false:=by
   cases hf:(List.range n).filter fun i=> !listed.getD i false with
   | nil=>grind
   | cons i l =>
    have:i∈(List.range n).filter fun i=> !listed.getD i false:=by rw [hf];simp
    grind
  have hsz: ∀ {i},i<n->i<listed.size:=fun h=>by rw [inv.size];omega
  have hready:Region.ready .any ops listed≠ []:=by
   obtain ⟨i,hi,hu⟩:=hun
   have: ∃i,i<n/\listed.getD i false=false/\ ∀j,j<i->listed.getD j false=true:=by
    induction i using Nat.strongRecOn with
    | _ i ihh =>
     by_cases hex: ∃j,j<i/\listed.getD j false=false
     ·obtain ⟨j,hj,hju⟩:=hex;exact ihh j hj Za hju
     grind
   obtain ⟨i,hi,hu,hmin⟩:=this;intro h0
   have:i∈Region.ready .any ops listed:=by
    have hlt:i<ops.size:=Za
    refine mem_ready.2 ⟨getD_in (hsz hi) hu,ops[i],by simp [hlt],fun e he hb=> ?_⟩;have h1:=ZC.1 hea i (Xa.2 hi)
    grind [Array.all_eq_true_iff_forall_mem]
   grind
  rw [show u+1+(ops.size-n)=(u+(ops.size-n))+1 by omega];refine ⟨fun h0=>absurd h0 hready,fun i hi=> ?_⟩
  have hin:i<n:=by
   rcases hsc with h | ⟨hs,hc⟩
   ·obtain ⟨_,o,ho,_⟩:=mem_ready.1 hi
    grind
   ·rcases Ww i n with h | h
    ·exact h
    ·obtain ⟨k,hk,hu⟩:=hun
     by_cases hne:n<ops.size
     ·exact absurd hi (tail_waits hs hc hne inv _ k rfl hk (getD_in (hsz hk) hu) i h)
     grind [mem_ready]
  obtain ⟨hiu,o,ho,hall⟩:=mem_ready.1 hi
  have hds:(ops.toList.map (·.dst))[i]? =some o.dst:=by simp [ho]
  have hdeps: ∀j∈ZO i o,j<n/\listed.getD j false=true:=fun j hj=>by
   refine ⟨by have:=Wl j hj;omega,?_⟩;simp [ZO] at hj
   grind
  have hcount:((List.range n).filter fun k=> !(listed.setIfInBounds i true).getD k false).length=u:=by
   have e:((List.range n).filter fun k=> !(listed.setIfInBounds i true).getD k false)=((List.range n).filter fun k=> !listed.getD k false).filter (fun k=>k≠i):=by
    rw [List.filter_filter];refine List.filter_congr fun k hk=> ?_
    by_cases hki:k=i
    ·subst hki;simp [hsz hin]
    ·rw [getD_set_ne false (fun h=>hki h.symm)];simp [hki]
   rw [e]
   have hmem:i∈(List.range n).filter fun k=> !listed.getD k false:=by
    grind
   have hnd:((List.range n).filter fun k=> !listed.getD k false).Nodup:=List.nodup_range.filter _;have:=List.Nodup.erase_eq_filter hnd i
   grind
  have next: ∀v w',Zfy P F H l ms (ZF (ops.toList.map (·.dst)) vals (List.range n) (Z3 ((ops.toList.map (·.dst)).take n) fr)) K (ops.toList.map (·.dst)) fr vals n ι0 w0 (listed.setIfInBounds i true) (a.put o.dst v) w'->wpAny P .any ops Q (u+(ops.size-n)) (listed.setIfInBounds i true) (a.put o.dst v) w':=fun v w' h =>
   ih _ _ w' (inv.set hi hin) hcount h
  have hiu2:listed.getD i false=false:=getD_both hiu;obtain ⟨rem,dn,L,hnd,hrm,hst,hdn,hlt,ι,ιL,hιl,mid,gd,slot⟩:=mid
  -- a slot that this operation does not write
  have hoth: ∀ {e:Nat} {v:Value},o.dst≠some e->((a.put o.dst v).tmps).getD e undef=a.tmps.getD e undef:=fun {e v} hne=>by
   cases hdst:o.dst with
   | none=>rfl
   | some d =>
    have hne2:d≠e:=fun h=>hne (by rw [hdst,h]);simp [Act.put,ZI,Do hne2]
  have hapart: ∀ {j e:Nat},j<n->j≠i->(ops.toList.map (·.dst))[j]? =some (some e)->o.dst≠some e:=fun {j e} hj hji hd h=>by
   have:=ZC.1 (ZC.1 hap i (Xa.2 hin)) j (Xa.2 hj)
   grind
  have hdm: ∀m∈ms,(ops.toList.map (·.dst))[m]? =some (ZZ l m).dst:=fun m hm=>by
   grind
  unfold wpOp;simp only [ho]
  by_cases him:i∈ms
  ·-- a late one
   obtain ⟨_,hom,hgm,hvm⟩:=hms i him;rw [hom] at ho;simp at ho;subst ho
   have hir:i∈rem:=by
    grind
   have hrl:i∈Vy l rem:=by
    rw [Vy,U2]
    grind
   obtain ⟨k,hk⟩: ∃k,rem.length=k+1:=⟨rem.length-1,by grind⟩;rw [hk] at hlt;obtain ⟨y,L',hstep,hlt'⟩:=hlt i hrl
   let ls:=(List.range n).filter fun j=>listed.getD j false
   have hls: ∀j∈ls,j<n/\listed.getD j false=true:=fun j hj=>by grind
   have hfr:=frAt (dn:=dn) (L:=L) ls hls mid slot
   have hag:VC (WC (ZZ l i).op) (ZF (ops.toList.map (·.dst)) vals ls (Z3 ((ops.toList.map (·.dst)).take n) fr)) (ZF (ops.toList.map (·.dst)) vals (List.range n) (Z3 ((ops.toList.map (·.dst)).take n) fr)) :=
    Az hap hdl hvl (fun j hj=>(hls j hj).1) fun t ht j hj hd=>by
     have:=hdeps j (hrd i him t ht j hj hd);simpa [ls] using this
   have hl:=(JZ (CB l (by simp [YD]) hag dn)).2 hstep
   have hw:Region.wanted (ZZ l i) (yielded ops a.tmps)=true:=by simp [Region.wanted,hgm]
   rw [if_pos hw];refine .inl (UP hl gd.rel hfr fun x H' ι' v w' hk g r=> ?_);obtain ⟨hx,rfl⟩:=hk;subst hx
   obtain ⟨ι1,ιL',rfl,hl1⟩: ∃ι1 ιL',ι'=ι1++ιL'/\ι1.length=H.length:=⟨ι'.take H.length,ι'.drop H.length,(List.take_append_drop _ _).symm,by
    have:=g.rel.len;rw [Zm] at this
    simp;omega⟩
   have trans: ∀ {x:V} {v:Value},RV (Own F ιL) H ι w x v->RV (Own F ιL') H ι1 w' x v:=fun {x v} h=>(g.rv h.widen).narrow hl1 h.refB
   have ZF: ∀m∈ms,(listed.setIfInBounds i true).getD m false=decide (m ∉ rem.erase i):=fun m hm=>by
    by_cases e:m=i
    ·subst e;simp [hsz hin,hnd.not_mem_erase]
    ·rw [getD_set_ne false (fun h=>e h.symm),hst m hm]
     grind
   have hpi: ∀p∈dn,p.1≠i:=fun p hp e=>(hdn p hp).2 (e ▸ hir);refine next v w' ⟨rem.erase i,(i,x)::dn,L',hnd.erase i,fun m hm=>hrm m (List.mem_of_mem_erase hm),ZF,fun p hp=> ?_,?_,ι1,ιL',hl1,⟨g.rel.front hl1 mid.rel.refH,?_,?_,fun t z ht' hnt=> ?_,fun j e z hj hlj hd hz hlt=> ?_⟩,gd.trans g,fun p hp d hd hlt=> ?_⟩
   ·rcases Xq.1 hp with rfl | hp
    ·grind
    grind
   ·have:(rem.erase i).length=k:=by grind
    rw [this];exact hlt'
   ·cases (ZZ l i).dst<;>simp [Act.put,mid.size]
   ·cases (ZZ l i).dst<;>exact mid.defers
   ·rw [hoth (fun e=>hnt (by
     rw [XD]
     exact ⟨i,by grind⟩))]
    exact trans (mid.old t z ht' hnt)
   ·by_cases hij:j=i
    ·subst hij;rw [hvm] at hz;simp at hz;subst hz;exact .junk _
    ·have hl':listed.getD j false=true:=by rwa [getD_set_ne false (fun h=>hij h.symm)] at hlj
     rw [hoth (hapart hj hij hd)];exact trans (mid.new j e z hj hl' hd hz hlt)
   ·rcases Xq.1 hp with rfl | hp
    ·simp only at hd;rw [hd]
     have:d<a.tmps.size:=by rw [mid.size];exact hlt
     have e2:((a.put (some d) v).tmps).getD d undef=v:=by simp [Act.put,Array.getD,this]
     grind
    ·have hpm:=(hdn p hp).1;rw [hoth (hapart (hms _ hpm).1 (hpi p hp) (by grind))];exact g.rv (slot p hp d hd hlt)
  ·-- another
   obtain ⟨z,hz,hok'⟩:=hok i o hin him ho;have hfr:=mid.fr _ hdeps
   have next': ∀ι' v w',Good (Own F ιL) H ι w H ι' w'->RV (Own F ιL) H ι' w' z v->wpAny P .any ops Q (u+(ops.size-n)) (listed.setIfInBounds i true) (a.put o.dst v) w':=fun ι' v w' g r=>by
    have g2:=Good.front hιl gd.rel g rfl;refine next v w' ⟨rem,dn,L,hnd,hrm,fun m hm=> ?_,hdn,hlt,ι',ιL,g.rel.len,mid.put hap g hin hds hz r,gd.trans g2,fun p hp d hd hlt=> ?_⟩
    ·rw [getD_set_ne false (fun (e:i=m)=>him (e ▸ hm))];grind
    ·have hpm:=(hdn p hp).1;rw [hoth (hapart (hms _ hpm).1 (fun h=>him (h ▸ hpm)) (by grind))];exact g2.rv (slot p hp d hd hlt)
   have run:ZB P o (ZF (ops.toList.map (·.dst)) vals (ZO i o) (Z3 ((ops.toList.map (·.dst)).take n) fr)) H (fun x H'=>x=z/\H'=H)->o.wp P a w (wpAny P .any ops Q (u+(ops.size-n)) (listed.setIfInBounds i true)) Q:=fun h =>
    CN h mid.rel hfr fun x H' ι' v w' hk g r=>by
     grind
   split at hok'
   ·rename_i hg
    have hw:Region.wanted o (yielded ops a.tmps)=true:=by simp [Region.wanted,hg]
    grind
   ·rename_i j b hg;rcases hok' with ⟨c,hc,h1,h2⟩ | ⟨hc,hyt⟩
    rotate_left
    ·have hyl:=YR hfr hc
     have hw: ¬(Region.wanted o (yielded ops a.tmps)=true):=by grind [Region.wanted]
     rw [if_neg hw];exact next' ι undef w (Good.refl mid.rel) (by grind [Y4])
    have hyl:=WT hfr hc
    by_cases hcb:c=b
    ·have hw:Region.wanted o (yielded ops a.tmps)=true:=by grind [Region.wanted]
     grind
    ·have hw: ¬(Region.wanted o (yielded ops a.tmps)=true):=by grind [Region.wanted]
     rw [if_neg hw];exact next' ι undef w (Good.refl mid.rel) (by grind [Y4])
def Eo (l : List Oper) (n : Nat) (ms : List Nat) : Bool :=
  (ms.all fun m => decide (m < n) && decide (m < l.length) && ((ZZ l m).guard.isNone && (WC (ZZ l m).op).all fun t => (List.range n).all fun j => match (l.map (·.dst))[j]? with
        | some (some d) => decide (d ≠ t) || (ZO m (ZZ l m)).contains j
        | _ => true)) && decide ms.Nodup
theorem Xc (ms:List Nat) {P:Program} {id:Nat} {l:List Oper} {fr:List V} {H:List Obj} {Q:Exit->List V->List Obj->Prop} {t} (n:Nat) (hm:P.follows .mixedOrders=true) (hB:Va (List.toArray l) n=true) (hR:Ko (List.toArray (VN ms l)) n=true) (hL:Eo l n ms=true) (hfl:fr.length<=1000000)
  (h:hs P (l.map (·.dst)) H (Zv (fun fr'=>QJ P H l ms.length ms (MO fr') [] (Zv (fun fr2 L=>Yz P (l.map (·.dst)) (l.drop n) fr2 (H++L) (Zv (Q .normal) ⟨⟩)) ⟨⟩)) ⟨⟩) ((VN ms l).take n) (MO fr)) :
  AWP P (.region id (Zv (List.toArray l) t) true) fr H Q:=fun F ι a w hr hf=>by
 refine wp_region_any hm ?_;have hB':=hB;simp only [Va,ZG,Zl] at hB';obtain ⟨⟨⟨⟨hn,_⟩,_⟩,hap⟩,_⟩:=hB'
 have hn2:n<=l.length:=Za
 simp only [Eo,ZG,ZC,Zl] at hL;obtain ⟨hL1,hL3⟩:=hL;have hds:(VN ms l).map (·.dst)=l.map (·.dst):=Ew ms l;have hh:=O2 (P:=P) (H:=H) (ops:=List.toArray (VN ms l)) (n:=n) (fr:=fr) (K:=fun fr'=>QJ P H l ms.length ms fr' [] (fun fr2 L=>Yz P (l.map (·.dst)) (l.drop n) fr2 (H++L) (Q .normal))) (by grind [Ex]) (by grind) hR _ 0 [] (Nat.zero_le _) rfl (by simp;rfl) (by simp_all [ZF,Zv,MO]);obtain ⟨ys,h1,⟨h2a,h2b⟩,h3⟩:=Be _ 0 [] rfl hh;simp only [ZR,hds] at h2a h2b h3;have hlen:ys.length=n:=h2a
 have g0:=Good.drew hr;have hf0:=g0.fr hf;have hget: ∀k,k<n->((VN ms l).take n)[k]? =(VN ms l)[k]? :=fun k hk=>Uz hk;have hjl:(Z3 ((l.map (·.dst)).take n) fr).length=fr.length:=YW _ _
 have hlat: ∀m∈ms,m<n/\l[m]? =some (ZZ l m)/\(ZZ l m).guard=none:=fun m hm=>by
  obtain ⟨⟨h4,h5⟩,h6,_⟩:=hL1 m hm;exact ⟨h4,by grind [Bk],by simpa using h6⟩
 have hvm: ∀m∈ms,ys[m]? =some .junk:=fun m hm=>by
  obtain ⟨q1,q2,q3⟩:=hlat m hm;obtain ⟨z,hy,hk⟩:=h3 m (JJ (ZZ l m)) (by grind [Dx]);rw [Xl] at hy;have e1:(JJ (ZZ l m)).guard=none:=q3;rw [e1] at hk;simp only [JJ,ZB,Zx,XW,YB,G9,Z7] at hk
  have hk2:gt (ZF (l.map (·.dst)) ys (ZO (0+m) { ZZ l m with op:= .move (.tmp 1000000) }) (Z3 ((l.map (·.dst)).take n) fr)) 1000000=z:=by grind [ev]
  grind [Nt,YD]
 have hfin:ZF (l.map (·.dst)) ys (List.range n) (Z3 ((l.map (·.dst)).take n) fr)=ZF (l.map (·.dst)) ys (List.range n) fr:=Eh hap (by grind) hlen
 have:=MJ (Q:=fun e a' w'=> ∃fr' H' ι',Q e fr' H'/\Good F H ι w H' ι' w'/\Fr F H' ι' w' fr' a') (F:=F) (fr:=fr) (vals:=ys) (P:=P) (H:=H) (l:=l) (ms:=ms) (K:=fun fr2 L=>Yz P (l.map (·.dst)) (l.drop n) fr2 (H++L) (Q .normal)) (ops:=List.toArray l) (ι0:=ι) (w0:= { w with drawn:=w.drawn+1 }) rfl hB hlen
  (fun m hm=>⟨(hlat m hm).1,by grind,(hlat m hm).2.2,hvm m hm⟩)
  (fun m hm t ht j hj hd=>by
   obtain ⟨_,_,h5⟩:=hL1 m hm;have h6:=h5 t ht j (Xa.2 hj);simp only at hd;rw [hd] at h6
   grind)
  (fun i o hi him ho=>by
   have:=h3 i o (by
    grind [Bv])
   grind)
  (fun fr2 L ι1 a1 w1 k1 g1 f1=>Yq (P:=P) (ops:=List.toArray l) _ _ (H++L) _ k1 F ι1 a1 w1 g1.rel f1 fun fr' H' ι' a' w' k g f=>⟨fr',H',ι',k,g0.trans (g1.trans g),f⟩)
  n (Array.replicate l.length false) a { w with drawn:=w.drawn+1 }
  ⟨Zb,fun j oj _ hl=>(by grind [getD_replicate_false]),fun t _ ht=>getD_in (by grind) (getD_replicate_false _ _)⟩
  (by
   grind [List.filter_eq_self,getD_replicate_false])
  ⟨ms,[],[],hL3,fun m hm=>hm,fun m hm=>by grind [getD_replicate_false],fun p hp=>(by cases hp),by
    grind [NN],ι,[],hr.len,by
   have g1:Rel F (H++ []) (ι++ []) { w with drawn:=w.drawn+1 } :=by simpa using g0.rel
   have r1:=g1.front hr.len hr.refH
   exact ⟨r1,hf0.1,hf0.2.1,fun t x ht _=>RV.narrow (L:= []) hr.len (by simpa using hf0.2.2 t x ht) (hf0.2.2 t x ht).refB,fun j d x _ hl=>by grind [getD_replicate_false]⟩,
   by simpa using Good.refl g0.rel,fun p hp=>(by cases hp)⟩
 grind [Zv]
theorem Yg {P H l rem fr L K} (h:K fr L):QJ P H l 0 rem fr L K:=h
theorem Pf {P H l n rem fr L K} (rs:List Nat) (hr:Vy l rem=rs) (h: ∀m∈rs,∃y L',Zx P (ZZ l m) fr (H++L) (fun x H'=>x=y/\H'=H++L')/\QJ P H l n (rem.erase m) (Y7 fr (ZZ l m).dst y) L' K):QJ P H l (n+1) rem fr L K:=fun m hm=>h m (hr ▸ hm)
theorem ZU {P H l n rem fr L K} (m:Nat) (y:V) (L':List Obj) (hr:Vy l rem= [m]) (h:Zx P (ZZ l m) fr (H++L) (fun x H'=>x=y/\H'=H++L')) (k:QJ P H l n (rem.erase m) (Y7 fr (ZZ l m).dst y) L' K):QJ P H l (n+1) rem fr L K :=
 Pf [m] hr fun m' hm'=>by
  grind
theorem R2 {P H l n rem fr L K} (m m2:Nat) (y:V) (L':List Obj) (y2:V) (L2:List Obj) (hr:Vy l rem= [m,m2]) (h:Zx P (ZZ l m) fr (H++L) (fun x H'=>x=y/\H'=H++L')) (h2:Zx P (ZZ l m2) fr (H++L) (fun x H'=>x=y2/\H'=H++L2))
  (k:QJ P H l n (rem.erase m) (Y7 fr (ZZ l m).dst y) L' K) (k2:QJ P H l n (rem.erase m2) (Y7 fr (ZZ l m2).dst y2) L2 K):QJ P H l (n+1) rem fr L K :=
 Pf [m,m2] hr fun m' hm'=>by
  grind
def J8 : Op->Bool
 | .move _=>true
 | .assign _=>true
 | .binOp _ _ _ _ _=>true
 | .unOp _ _ _=>true
 | .pick _ _ _=>true
 | _=>false
theorem Aq {P:Program} {o:Oper} (h:J8 o.op=true) {fr:List V} {H H2:List Obj} {y:V} (k:ZB P o fr H (fun x H'=>x=y/\H'=H)):ZB P o fr H2 (fun x H'=>x=y/\H'=H2):=by
 have key: ∀(f:List Obj->Option V),(∀A B,f A=f B)->(match (match f H with | some x=>some (x,H) | none=>(none:Option (V×List Obj))) with | some (x,H')=>x=y/\H'=H | none=>False)->(match (match f H2 with | some x=>some (x,H2) | none=>(none:Option (V×List Obj))) with | some (x,H')=>x=y/\H'=H2 | none=>False):=fun f hf hk=>by
  rw [hf H2 H]
  cases hfh:f H with
  | none=>grind
  | some x=>grind
 unfold ZB Zx at k ⊢
 cases hop:o.op with
 | move x=>rw [hop] at k;simp only [YB,G9,Z7,XW] at k ⊢;omega
 | assign x=>rw [hop] at k;simp only [YB,G9,Z7,XW] at k ⊢;omega
 | binOp a b c d e =>
  grind [YB,G9,Z7,XW,Wj]
 | unOp a b c =>
  grind [YB,G9,Z7,XW,Wj]
 | pick c x z =>
  grind [YB,G9,Z7,XW,Wj]
 | _=>rw [hop] at h;cases h
theorem Lq {P:Program} {ds:List (Option Nat)} {fr vals:List V} {H H2:List Obj} {i:Nat} {o:Oper} (h:J8 o.op=true) (k:Fi P ds fr H vals i o):Fi P ds fr H2 vals i o:=by
 obtain ⟨y,h1,h2⟩:=k;refine ⟨y,h1,?_⟩
 split at h2
 ·exact Aq h h2
 ·rcases h2 with ⟨c,q1,q2,q3⟩ | q
  ·exact .inl ⟨c,q1,fun e=>Aq h (q2 e),q3⟩
  grind
def CM (l:List Oper):Nat->Nat->Nat->Bool
 | 0,_,_=>false
 | f+1,i,m=>(ZO m (ZZ l m)).any fun j=>decide (j=i)||CM l f i j
theorem Av {l:List Oper} {ops:Array Oper} (hol:ops.toList=l) {n:Nat} {listed:Array Bool} (inv:HeadInv .any ops n listed): ∀(f i m:Nat),m<l.length->CM l f i m=true->(∀j∈ZO m (ZZ l m),listed.getD j false=true)->listed.getD i false=true
 | 0,_,_,_,h,_=>by cases h
 | f+1,i,m,hm,h,hd=>by
  rw [CM,UE] at h;obtain ⟨j,hj,h⟩:=h;rw [Wd] at h;rcases h with h | h
  ·grind
  ·have hjm:j<m:=Wl j hj
   have hjl:j<l.length:=Za
   refine Av hol inv f i j hjl h fun k hk=> ?_
   have ho:ops[j]? =some (ZZ l j):=by
    grind [Bk]
   simp [ZO] at hk;obtain ⟨e,⟨he,hb,_⟩,rfl⟩:=hk;exact inv.closed j _ ho (hd j hj) e he hb
def Em (ko:List Nat) (x:V):Prop:= ∃o∈ko,(∃off,x= .ptr o off)\/ ∃off n,x= .sl o off n n
theorem WY {ko:List Nat} {o off} (h:o∈ko):Em ko (.ptr o off):=⟨o,h,.inl ⟨off,rfl⟩⟩
theorem cX {ko:List Nat} {o off n} (h:o∈ko):Em ko (.sl o off n n):=⟨o,h,.inr ⟨off,n,rfl⟩⟩
def rL (ds:List (Option Nat)) (frj vals:List V) (ko:List Nat) (i:Nat) (o:Oper):Prop:=o.guard=none/\ ∃p,((∃u,o.op= .load u (.tmp p))\/(∃s f,o.op= .fieldAddr s (.tmp p) f)\/(∃t q,o.op= .indexAddr t (.tmp p) q)\/o.op= .nilCheck (.tmp p))/\Em ko (gt (ZF ds vals (ZO i o) frj) p)
theorem mB {P:Program} {ds:List (Option Nat)} {fr vals:List V} {H L:List Obj} {ko:List Nat} {i:Nat} {o:Oper} (hk:rL ds fr vals ko i o) (h: ∀k∈ko,oat L k=oat H k) (k:Fi P ds fr H vals i o):Fi P ds fr L vals i o:=by
 obtain ⟨hg,p,hop,o1,ho1,hp⟩:=hk;replace h:=h o1 ho1;obtain ⟨y,h1,h2⟩:=k;refine ⟨y,h1,?_⟩;rw [hg] at h2 ⊢;simp only at h2 ⊢;unfold ZB Zx at h2 ⊢;generalize hX:gt (ZF ds vals (ZO i o) fr) p=X at hp;rcases hop with ⟨u,hop⟩ | ⟨s,f,hop⟩ | ⟨t,q,hop⟩ | hop
 ·have hl:Qy P L u X=Qy P H u X:=by
   rcases hp with ⟨off,rfl⟩ | ⟨off,n,rfl⟩
   ·grind [Qy,VV]
   ·rfl
  rw [hop] at h2 ⊢;simp only [YB,G9,Z7,XW,ev,hX,hl] at h2 ⊢
  cases hl:Qy P H u X with
  | none=>grind [Wj]
  | some z=>grind
 ·have hal:Y1 L X=Y1 H X:=by
   rcases hp with ⟨off,rfl⟩ | ⟨off,n,rfl⟩
   ·show (match oat L o1 with | .cells _=>true | _=>false)=(match oat H o1 with | .cells _=>true | _=>false);rw [h]
   ·rfl
  have ha:Q2 P L s f X=Q2 P H s f X:=by grind [Q2]
  rw [hop] at h2 ⊢;simp only [YB,G9,Z7,XW,ev,hX,ha] at h2 ⊢
  cases hl:Q2 P H s f X with
  | none=>grind [Wj]
  | some z=>grind
 ·obtain ⟨I,hI⟩: ∃I,I=ev (ZF ds vals (ZO i o) fr) q:=⟨_,rfl⟩
  have ha:Qc P L t X I=Qc P H t X I:=by
   have hal:Y1 L X=Y1 H X:=by
    rcases hp with ⟨off,rfl⟩ | ⟨off,n,rfl⟩
    ·show (match oat L o1 with | .cells _=>true | _=>false)=(match oat H o1 with | .cells _=>true | _=>false);rw [h]
    ·rfl
   rcases hp with ⟨off,rfl⟩ | ⟨off,n,rfl⟩
   ·unfold Qc;rw [hal]
   simp_all [Qc]
  rw [hop] at h2 ⊢;have hx:evx (ZF ds vals (ZO i o) fr) (.tmp p)=X:=hX;simp only [YB,G9,Z7,XW,hx,<- hI,ha] at h2 ⊢
  cases hz:Qc P H t X I with
  | none=>grind [Wj]
  | some z=>grind
 ·have hal:Y1 L X=Y1 H X:=by
   rcases hp with ⟨off,rfl⟩ | ⟨off,n,rfl⟩
   ·show (match oat L o1 with | .cells _=>true | _=>false)=(match oat H o1 with | .cells _=>true | _=>false);rw [h]
   ·rfl
  grind [YB,G9,Z7,XW,ev,Y1,cT,Wj]
def OpX (P:Program) (o:Oper) (fr:List V) (H:List Obj) (B:V->List Obj->Prop):Prop :=
 ∀F ι a w,Rel F H ι w->Fr F H ι w fr a-> ∃y H' nx v ι' w',B y H'/\(execOp a.eval o).run P w= .ok nx w'/\(nx= .value v\/(nx= .skip/\v=undef))/\Good F H ι w H' ι' w'/\RV F H' ι' w' y v
def stX (P:Program) (o:Oper) (fr:List V) (H:List Obj) (R:V->List Obj->Prop):Prop:=Zx P o fr H R\/ ∀f2,VC (WC o.op) fr f2->OpX P o f2 H R
theorem SZ {P:Program} {o:Oper} {f1 f2:List V} {H:List Obj} {R:V->List Obj->Prop} (h:VC (WC o.op) f1 f2) (k:stX P o f2 H R):stX P o f1 H R :=
 k.imp (JZ h).2 fun k f3 h3=>k f3 fun t ht=>(h t ht).symm.trans (h3 t ht)
theorem ZbU {P:Program} {o:Oper} {fr:List V} {H:List Obj} {K:V->List Obj->Prop} (h:stX P o fr H K) {F ι a w} (hr:Rel F H ι w) (hf:Fr F H ι w fr a) {next:Act->World->Prop} {Q:Exit->Act->World->Prop}
  (hn: ∀x H' ι' v w',K x H'->Good F H ι w H' ι' w'->RV F H' ι' w' x v->next (a.put o.dst v) w'):o.wp P a w next Q:=by
 rcases h with h | h
 ·grind [UP]
 ·obtain ⟨x,H',nx,v,ι',w',k,e,e2,g,r⟩:=h fr (fun _ _=>rfl) F ι a w hr hf;unfold Oper.wp;rw [e];rcases e2 with rfl | ⟨rfl,rfl⟩
  ·exact hn x H' ι' v w' k g r
  ·exact hn x H' ι' undef w' k g r
def Ar (P:Program) (ko:List Nat) (l:List Oper):Nat->List Nat->List V->List Obj->(List V->List Obj->Prop)->Prop
 | 0,_,fr,H,K=>K fr H
 | n+1,rem,fr,H,K=> ∀m∈Vy l rem,∃R:V->List Obj->Prop,stX P (ZZ l m) fr H R/\ ∀y H',R y H'->(∀k∈ko,oat H' k=oat H k)/\Ar P ko l n (rem.erase m) (Y7 fr (ZZ l m).dst y) H' K
def Zfx (P:Program) (ko:List Nat) (F:Nat->Prop) (H:List Obj) (l:List Oper) (ms:List Nat) (bs:List V) (K:List V->List Obj->Prop) (ds:List (Option Nat)) (fr vals:List V) (n:Nat) (ι0:List (Option Nat)) (w0:World) (listed:Array Bool) (a:Act) (w:World):Prop :=
 ∃(rem:List Nat) (dn:List (Nat×V)) (L:List Obj),(((∀m∈ms,m∈rem)->L=H)/\(∀k∈ko,oat L k=oat H k))/\rem.Nodup/\(∀m∈rem,m∈ms)/\(∀m∈ms,listed.getD m false=decide (m ∉ rem))/\(∀p∈dn,p.1∈ms/\p.1 ∉ rem)/\Ar P ko l rem.length rem (NN l dn bs) L K /\
  ∃ι,Mid F L ds fr vals n listed ι a w/\Good F H ι0 w0 L ι w /\
   ∀p∈dn,∀d,(ZZ l p.1).dst=some d->d<fr.length->RV F L ι w p.2 (a.tmps.getD d undef)
theorem MI {P:Program} {ko:List Nat} {ops:Array Oper} {Q:Exit->Act->World->Prop} {F H fr vals} {n:Nat} {l:List Oper} {ms:List Nat} {K:List V->List Obj->Prop} (hol:ops.toList=l) (hB:Va ops n=true) (hvl:vals.length=n)
  (hms: ∀m∈ms,m<n/\ops[m]? =some (ZZ l m)/\(ZZ l m).guard=none/\vals[m]? =some .junk)
  (hrd: ∀m∈ms,∀t∈WC (ZZ l m).op,∀j,j<n->(ops.toList.map (·.dst))[j]? =some (some t)->j∈ZO m (ZZ l m))
  (hev: ∀i,i<n->i ∉ ms->(J8 (ZZ l i).op=true\/ ∀m∈ms,CM l n i m=true)\/rL (ops.toList.map (·.dst)) (Z3 ((ops.toList.map (·.dst)).take n) fr) vals ko i (ZZ l i))
  (hok: ∀(i:Nat) (o:Oper),i<n->i ∉ ms->ops[i]? =some o->Fi P (ops.toList.map (·.dst)) (Z3 ((ops.toList.map (·.dst)).take n) fr) H vals i o) {ι0 w0}
  (ht: ∀fr' L ι a w,K fr' L->Good F H ι0 w0 L ι w->Fr F L ι w fr' a->wpList P ops Q (ops.toList.drop n) a w) :
  ∀(u:Nat) (listed:Array Bool) (a:Act) (w:World),HeadInv .any ops n listed->((List.range n).filter fun i=> !listed.getD i false).length=u ->
   Zfx P ko F H l ms (ZF (ops.toList.map (·.dst)) vals (List.range n) (Z3 ((ops.toList.map (·.dst)).take n) fr)) K (ops.toList.map (·.dst)) fr vals n ι0 w0 listed a w->wpAny P .any ops Q (u+(ops.size-n)) listed a w:=by
 simp only [Va,ZG,Zl,Wd] at hB;obtain ⟨⟨⟨⟨hn,hsc⟩,hea⟩,hap⟩,hseq⟩:=hB
 have hdl:n<=(ops.toList.map (·.dst)).length:=by grind
 -- the frame at late operations done, azs far azs is listed
 have frAt: ∀ {dn:List (Nat×V)} {L:List Obj} {listed:Array Bool} {ι:List (Option Nat)} {a:Act} {w:World} (ls:List Nat),(∀j∈ls,j<n/\listed.getD j false=true)->Mid F L (ops.toList.map (·.dst)) fr vals n listed ι a w ->
   (∀p∈dn,∀d,(ZZ l p.1).dst=some d->d<fr.length->RV F L ι w p.2 (a.tmps.getD d undef)) ->
   Fr F L ι w (NN l dn (ZF (ops.toList.map (·.dst)) vals ls (Z3 ((ops.toList.map (·.dst)).take n) fr))) a:=fun {dn L listed ι a w} ls hls mid slot=>by
  obtain ⟨f1,f2,f3⟩:=mid.fr ls hls;refine ⟨by rw [BH];exact f1,f2,fun t x hx=> ?_⟩;rcases HU l dn _ hx with ⟨p,h1,h2,rfl,h4⟩ | h1
  ·grind [YD,YW]
  grind
 intro u
 induction u with
 | zero =>
  intro listed a w inv hm mid
  have hall: ∀i,i<n->listed.getD i false=true:=fun i hi=>by
   have h0:=Xe hm
   have:i ∉ (List.range n).filter fun i=> !listed.getD i false:=by rw [h0];simp
   grind
  have hl:listed=Array.replicate n true++Array.replicate (ops.size-n) false:=by
   refine Array.ext (by simp [inv.size];omega) fun i h1 h2=> ?_
   by_cases hi:i<n
   ·have:=hall i hi;rw [Array.getElem_append_left (by grind)];simp [h1] at this;simp [this]
   ·have:=inv.tail i Za (by grind);rw [Array.getElem_append_right (by simp;omega)];simp [h1] at this;simp [this]
  obtain ⟨rem,dn,L,⟨hLH,hko⟩,hnd,hrm,hst,hdn,hlt,ι,mid,gd,slot⟩:=mid
  have hs:rem= []:=by
   cases rem with
   | nil=>rfl
   | cons m r =>
    have h1:=hst m (hrm m Zb)
    grind
  subst hs;have hw:=ht _ L ι a w hlt gd (frAt (List.range n) (fun j hj=>⟨Xa.1 hj,hall j (Xa.1 hj)⟩) mid slot);have:=wpAny_of_seq (md:= .any) (Q':=Q) (ops.toList.drop n) n listed a w (fun j=>Zb) (by grind) hw
  grind
 | succ u ih =>
  intro listed a w inv hm mid
  have hun: ∃i,i<n/\listed.getD i false=false:=by
   cases hf:(List.range n).filter fun i=> !listed.getD i false with
   | nil=>grind
   | cons i l =>
    have:i∈(List.range n).filter fun i=> !listed.getD i false:=by rw [hf];simp
    grind
  have hsz: ∀ {i},i<n->i<listed.size:=fun h=>by rw [inv.size];omega
  have hready:Region.ready .any ops listed≠ []:=by
   obtain ⟨i,hi,hu⟩:=hun
   have: ∃i,i<n/\listed.getD i false=false/\ ∀j,j<i->listed.getD j false=true:=by
    induction i using Nat.strongRecOn with
    | _ i ihh =>
     by_cases hex: ∃j,j<i/\listed.getD j false=false
     ·obtain ⟨j,hj,hju⟩:=hex;exact ihh j hj Za hju
     grind
   obtain ⟨i,hi,hu,hmin⟩:=this;intro h0
   have:i∈Region.ready .any ops listed:=by
    have hlt:i<ops.size:=Za
    refine mem_ready.2 ⟨getD_in (hsz hi) hu,ops[i],by simp [hlt],fun e he hb=> ?_⟩;have h1:=ZC.1 hea i (Xa.2 hi)
    grind [Array.all_eq_true_iff_forall_mem]
   grind
  rw [show u+1+(ops.size-n)=(u+(ops.size-n))+1 by omega];refine ⟨fun h0=>absurd h0 hready,fun i hi=> ?_⟩
  have hin:i<n:=by
   rcases hsc with h | ⟨hs,hc⟩
   ·obtain ⟨_,o,ho,_⟩:=mem_ready.1 hi
    grind
   ·rcases Ww i n with h | h
    ·exact h
    ·obtain ⟨k,hk,hu⟩:=hun
     by_cases hne:n<ops.size
     ·exact absurd hi (tail_waits hs hc hne inv _ k rfl hk (getD_in (hsz hk) hu) i h)
     ·obtain ⟨_,o,ho,_⟩:=mem_ready.1 hi
      grind
  obtain ⟨hiu,o,ho,hall⟩:=mem_ready.1 hi
  have hds:(ops.toList.map (·.dst))[i]? =some o.dst:=by simp [ho]
  have hdeps: ∀j∈ZO i o,j<n/\listed.getD j false=true:=fun j hj=>by
   refine ⟨by have:=Wl j hj;omega,?_⟩;simp [ZO] at hj
   grind
  have hcount:((List.range n).filter fun k=> !(listed.setIfInBounds i true).getD k false).length=u:=by
   have e:((List.range n).filter fun k=> !(listed.setIfInBounds i true).getD k false)=((List.range n).filter fun k=> !listed.getD k false).filter (fun k=>k≠i):=by
    rw [List.filter_filter];refine List.filter_congr fun k hk=> ?_
    by_cases hki:k=i
    ·subst hki;simp [hsz hin]
    ·rw [getD_set_ne false (fun h=>hki h.symm)];simp [hki]
   rw [e]
   have hmem:i∈(List.range n).filter fun k=> !listed.getD k false:=by
    grind
   have hnd:((List.range n).filter fun k=> !listed.getD k false).Nodup:=List.nodup_range.filter _;have:=List.Nodup.erase_eq_filter hnd i
   grind
  have next: ∀v w',Zfx P ko F H l ms (ZF (ops.toList.map (·.dst)) vals (List.range n) (Z3 ((ops.toList.map (·.dst)).take n) fr)) K (ops.toList.map (·.dst)) fr vals n ι0 w0 (listed.setIfInBounds i true) (a.put o.dst v) w'->wpAny P .any ops Q (u+(ops.size-n)) (listed.setIfInBounds i true) (a.put o.dst v) w':=fun v w' h =>
   ih _ _ w' (inv.set hi hin) hcount h
  have hiu2:listed.getD i false=false:=getD_both hiu;obtain ⟨rem,dn,L,⟨hLH,hko⟩,hnd,hrm,hst,hdn,hlt,ι,mid,gd,slot⟩:=mid
  -- a slot that this operation does not write
  have hoth: ∀ {e:Nat} {v:Value},o.dst≠some e->((a.put o.dst v).tmps).getD e undef=a.tmps.getD e undef:=fun {e v} hne=>by
   cases hdst:o.dst with
   | none=>rfl
   | some d =>
    have hne2:d≠e:=fun h=>hne (by rw [hdst,h]);simp [Act.put,ZI,Do hne2]
  have hapart: ∀ {j e:Nat},j<n->j≠i->(ops.toList.map (·.dst))[j]? =some (some e)->o.dst≠some e:=fun {j e} hj hji hd h=>by
   have:=ZC.1 (ZC.1 hap i (Xa.2 hin)) j (Xa.2 hj)
   grind
  have hdm: ∀m∈ms,(ops.toList.map (·.dst))[m]? =some (ZZ l m).dst:=fun m hm=>by
   grind
  unfold wpOp;simp only [ho]
  by_cases him:i∈ms
  ·-- a late one
   obtain ⟨_,hom,hgm,hvm⟩:=hms i him;rw [hom] at ho;simp at ho;subst ho
   have hir:i∈rem:=by
    grind
   have hrl:i∈Vy l rem:=by
    rw [Vy,U2]
    grind
   obtain ⟨k,hk⟩: ∃k,rem.length=k+1:=⟨rem.length-1,by grind⟩;rw [hk] at hlt;obtain ⟨R,hstep,hltR⟩:=hlt i hrl
   let ls:=(List.range n).filter fun j=>listed.getD j false
   have hls: ∀j∈ls,j<n/\listed.getD j false=true:=fun j hj=>by grind
   have hfr:=frAt (dn:=dn) (L:=L) ls hls mid slot
   have hag:VC (WC (ZZ l i).op) (ZF (ops.toList.map (·.dst)) vals ls (Z3 ((ops.toList.map (·.dst)).take n) fr)) (ZF (ops.toList.map (·.dst)) vals (List.range n) (Z3 ((ops.toList.map (·.dst)).take n) fr)) :=
    Az hap hdl hvl (fun j hj=>(hls j hj).1) fun t ht j hj hd=>by
     have:=hdeps j (hrd i him t ht j hj hd);simpa [ls] using this
   have hl:=SZ (CB l (by simp [YD]) hag dn) hstep
   have hw:Region.wanted (ZZ l i) (yielded ops a.tmps)=true:=by simp [Region.wanted,hgm]
   rw [if_pos hw];refine .inl (ZbU hl gd.rel hfr fun x H' ι' v w' hk g r=> ?_);obtain ⟨hko',hlt'⟩:=hltR x H' hk;have trans: ∀ {x:V} {v:Value},RV F L ι w x v->RV F H' ι' w' x v:=fun {x v} h=>g.rv h
   have ZF: ∀m∈ms,(listed.setIfInBounds i true).getD m false=decide (m ∉ rem.erase i):=fun m hm=>by
    by_cases e:m=i
    ·subst e;simp [hsz hin,hnd.not_mem_erase]
    ·rw [getD_set_ne false (fun h=>e h.symm),hst m hm]
     grind
   have hpi: ∀p∈dn,p.1≠i:=fun p hp e=>(hdn p hp).2 (e ▸ hir);refine next v w' ⟨rem.erase i,(i,x)::dn,H',⟨fun hall=>absurd (hall i him) hnd.not_mem_erase,fun k hk=>(hko' k hk).trans (hko k hk)⟩,hnd.erase i,fun m hm=>hrm m (List.mem_of_mem_erase hm),ZF,fun p hp=> ?_,?_,ι',⟨g.rel,?_,?_,fun t z ht' hnt=> ?_,fun j e z hj hlj hd hz hlt=> ?_⟩,gd.trans g,fun p hp d hd hlt=> ?_⟩
   ·rcases Xq.1 hp with rfl | hp
    ·grind
    ·exact ⟨(hdn p hp).1,fun h=>(hdn p hp).2 (List.mem_of_mem_erase h)⟩
   ·have:(rem.erase i).length=k:=by grind
    rw [this];exact hlt'
   ·cases (ZZ l i).dst<;>simp [Act.put,mid.size]
   ·cases (ZZ l i).dst<;>exact mid.defers
   ·rw [hoth (fun e=>hnt (by
     rw [XD]
     exact ⟨i,by grind⟩))]
    exact trans (mid.old t z ht' hnt)
   ·by_cases hij:j=i
    ·subst hij;rw [hvm] at hz;simp at hz;subst hz;exact .junk _
    ·have hl':listed.getD j false=true:=by rwa [getD_set_ne false (fun h=>hij h.symm)] at hlj
     rw [hoth (hapart hj hij hd)];exact trans (mid.new j e z hj hl' hd hz hlt)
   ·rcases Xq.1 hp with rfl | hp
    ·simp only at hd;rw [hd]
     have:d<a.tmps.size:=by rw [mid.size];exact hlt
     have e2:((a.put (some d) v).tmps).getD d undef=v:=by simp [Act.put,Array.getD,this]
     grind
    ·have hpm:=(hdn p hp).1;rw [hoth (hapart (hms _ hpm).1 (hpi p hp) (by grind))];exact g.rv (slot p hp d hd hlt)
  ·-- another
   have hil:i<l.length:=by grind
   have hlo:ZZ l i=o:=by
    have e:ops[i]? =some (ZZ l i):=by
     rw [<- Bn,hol,Bk,Xv,Ws hil];rfl
    grind
   have hokL:Fi P (ops.toList.map (·.dst)) (Z3 ((ops.toList.map (·.dst)).take n) fr) L vals i o:=by
    by_cases hall: ∀m∈ms,m∈rem
    ·rw [hLH hall];grind
    ·rcases (hev i hin him).symm with h | h
     ·exact mB (by grind) hko (hok i o hin him ho)
     rcases h with h | h
     ·exact Lq (by grind) (hok i o hin him ho)
     ·exfalso;refine hall fun m hm=>Ka fun hnr=> ?_;have h1:=hst m hm;rw [Wv hnr] at h1
      have hml:m<l.length:=by grind
      have:=Av hol inv n i m hml (h m hm) fun j hj=>by
       simp [ZO] at hj;obtain ⟨e,⟨he,hb,_⟩,rfl⟩:=hj;exact inv.closed m _ (hms m hm).2.1 h1 e he hb
      grind
   obtain ⟨z,hz,hok'⟩:=hokL;have hfr:=mid.fr _ hdeps
   have next': ∀ι' v w',Good F L ι w L ι' w'->RV F L ι' w' z v->wpAny P .any ops Q (u+(ops.size-n)) (listed.setIfInBounds i true) (a.put o.dst v) w':=fun ι' v w' g r=>by
    refine next v w' ⟨rem,dn,L,⟨hLH,hko⟩,hnd,hrm,fun m hm=> ?_,hdn,hlt,ι',mid.put hap g hin hds hz r,gd.trans g,fun p hp d hd hlt=> ?_⟩
    ·rw [getD_set_ne false (fun (e:i=m)=>him (e ▸ hm))];grind
    ·have hpm:=(hdn p hp).1;rw [hoth (hapart (hms _ hpm).1 (fun h=>him (h ▸ hpm)) (by grind))];exact g.rv (slot p hp d hd hlt)
   have run:ZB P o (ZF (ops.toList.map (·.dst)) vals (ZO i o) (Z3 ((ops.toList.map (·.dst)).take n) fr)) L (fun x H'=>x=z/\H'=L)->o.wp P a w (wpAny P .any ops Q (u+(ops.size-n)) (listed.setIfInBounds i true)) Q:=fun h =>
    CN h mid.rel hfr fun x H' ι' v w' hk g r=>by
     grind
   split at hok'
   ·rename_i hg
    have hw:Region.wanted o (yielded ops a.tmps)=true:=by simp [Region.wanted,hg]
    grind
   ·rename_i j b hg;rcases hok' with ⟨c,hc,h1,h2⟩ | ⟨hc,hyt⟩
    rotate_left
    ·have hyl:=YR hfr hc
     have hw: ¬(Region.wanted o (yielded ops a.tmps)=true):=by grind [Region.wanted]
     rw [if_neg hw];exact next' ι undef w (Good.refl mid.rel) (by grind [Y4])
    have hyl:=WT hfr hc
    by_cases hcb:c=b
    ·have hw:Region.wanted o (yielded ops a.tmps)=true:=by grind [Region.wanted]
     grind
    ·have hw: ¬(Region.wanted o (yielded ops a.tmps)=true):=by grind [Region.wanted]
     rw [if_neg hw];exact next' ι undef w (Good.refl mid.rel) (by grind [Y4])
def ldP (o:Oper):Option Nat:=match o.op with | .load _ (.tmp p)=>if o.guard.isNone=true then some p else none | .fieldAddr _ (.tmp p) _=>if o.guard.isNone=true then some p else none | .indexAddr _ (.tmp p) _=>if o.guard.isNone=true then some p else none | .nilCheck (.tmp p)=>if o.guard.isNone=true then some p else none | _=>none
def evC (l:List Oper) (n:Nat) (ms ks:List Nat):Bool:=(List.range n).all fun i=>ms.contains i||J8 (ZZ l i).op||(ms.all fun m=>CM l n i m)||(ks.contains i&&match ldP (ZZ l i) with
 | some p=>(List.range n).all fun j=>match (l.map (·.dst))[j]? with | some (some d)=>decide (d≠p)||(ZO i (ZZ l i)).contains j | _=>true
 | none=>false)
theorem Q7 (ms ks ko:List Nat) {P:Program} {id:Nat} {l:List Oper} {fr:List V} {H:List Obj} {Q:Exit->List V->List Obj->Prop} {t} (n:Nat) (hm:P.follows .mixedOrders=true) (hB:Va (List.toArray l) n=true) (hR:Ko (List.toArray (VN ms l)) n=true) (hL:Eo l n ms=true) (hE:evC l n ms ks=true) (hfl:fr.length<=1000000)
  (h:hs P (l.map (·.dst)) H (Zv (fun fr'=>(∀k∈ks,∀p,ldP (ZZ l k)=some p->Em ko (gt (MO fr') p))/\Ar P ko l ms.length ms (MO fr') H (Zv (fun fr2 L=>Yz P (l.map (·.dst)) (l.drop n) fr2 L (Zv (Q .normal) ⟨⟩)) ⟨⟩)) ⟨⟩) ((VN ms l).take n) (MO fr)) :
  AWP P (.region id (Zv (List.toArray l) t) true) fr H Q:=fun F ι a w hr hf=>by
 refine wp_region_any hm ?_;have hB':=hB;simp only [Va,ZG,Zl] at hB';obtain ⟨⟨⟨⟨hn,_⟩,_⟩,hap⟩,_⟩:=hB'
 have hn2:n<=l.length:=Za
 simp only [Eo,ZG,ZC,Zl] at hL;obtain ⟨hL1,hL3⟩:=hL;have hds:(VN ms l).map (·.dst)=l.map (·.dst):=Ew ms l;have hh:=O2 (P:=P) (H:=H) (ops:=List.toArray (VN ms l)) (n:=n) (fr:=fr) (K:=fun fr'=>(∀k∈ks,∀p,ldP (ZZ l k)=some p->Em ko (gt fr' p))/\Ar P ko l ms.length ms fr' H (fun fr2 L=>Yz P (l.map (·.dst)) (l.drop n) fr2 L (Q .normal))) (by grind [Ex]) (by grind) hR _ 0 [] (Nat.zero_le _) rfl (by simp;rfl) (by simp_all [ZF,Zv,MO]);obtain ⟨ys,h1,⟨h2a,h2b⟩,h3⟩:=Be _ 0 [] rfl hh
 simp only [ZR,hds] at h2a h2b h3;have hlen:ys.length=n:=h2a;have g0:=Good.drew hr;have hf0:=g0.fr hf;have hget: ∀k,k<n->((VN ms l).take n)[k]? =(VN ms l)[k]? :=fun k hk=>Uz hk;have hjl:(Z3 ((l.map (·.dst)).take n) fr).length=fr.length:=YW _ _
 have hlat: ∀m∈ms,m<n/\l[m]? =some (ZZ l m)/\(ZZ l m).guard=none:=fun m hm=>by
  obtain ⟨⟨h4,h5⟩,h6,_⟩:=hL1 m hm;exact ⟨h4,by grind [Bk],by simpa using h6⟩
 have hvm: ∀m∈ms,ys[m]? =some .junk:=fun m hm=>by
  obtain ⟨q1,q2,q3⟩:=hlat m hm;obtain ⟨z,hy,hk⟩:=h3 m (JJ (ZZ l m)) (by grind [Dx]);rw [Xl] at hy;have e1:(JJ (ZZ l m)).guard=none:=q3;rw [e1] at hk;simp only [JJ,ZB,Zx,XW,YB,G9,Z7] at hk
  have hk2:gt (ZF (l.map (·.dst)) ys (ZO (0+m) { ZZ l m with op:= .move (.tmp 1000000) }) (Z3 ((l.map (·.dst)).take n) fr)) 1000000=z:=by grind [ev]
  grind [Nt,YD]
 have hfin:ZF (l.map (·.dst)) ys (List.range n) (Z3 ((l.map (·.dst)).take n) fr)=ZF (l.map (·.dst)) ys (List.range n) fr:=Eh hap (by grind) hlen
 have:=MI (ko:=ko) (Q:=fun e a' w'=> ∃fr' H' ι',Q e fr' H'/\Good F H ι w H' ι' w'/\Fr F H' ι' w' fr' a') (F:=F) (fr:=fr) (vals:=ys) (P:=P) (H:=H) (l:=l) (ms:=ms) (K:=fun fr2 L=>Yz P (l.map (·.dst)) (l.drop n) fr2 L (Q .normal)) (ops:=List.toArray l) (ι0:=ι) (w0:= { w with drawn:=w.drawn+1 }) rfl hB hlen
  (fun m hm=>⟨(hlat m hm).1,by grind,(hlat m hm).2.2,hvm m hm⟩)
  (fun m hm t ht j hj hd=>by
   obtain ⟨_,_,h5⟩:=hL1 m hm;have h6:=h5 t ht j (Xa.2 hj);simp only at hd;rw [hd] at h6
   grind)
  (fun i hi him=>by
   have:=ZC.1 hE i (Xa.2 hi);rw [Wd,Wd,Wd] at this;rcases this with h | h
   ·grind
   ·right
    rw [ZG] at h;obtain ⟨hk,h⟩:=h
    split at h
    rotate_left
    ·cases h
    rename_i p hp;have ho:=h2b.1 i (by grind) p hp
    have hgo:(ZZ l i).guard=none/\((∃u,(ZZ l i).op= .load u (.tmp p))\/(∃s f,(ZZ l i).op= .fieldAddr s (.tmp p) f)\/(∃t q,(ZZ l i).op= .indexAddr t (.tmp p) q)\/(ZZ l i).op= .nilCheck (.tmp p)):=by
     unfold ldP at hp
     split at hp
     ·rename_i u q hop
      split at hp
      ·rename_i hg;simp at hp;subst hp;exact ⟨by simpa using hg,.inl ⟨u,hop⟩⟩
      ·cases hp
     ·rename_i u q f hop
      split at hp
      ·rename_i hg;simp at hp;subst hp;exact ⟨by simpa using hg,.inr (.inl ⟨u,f,hop⟩)⟩
      ·cases hp
     ·rename_i u q f hop
      split at hp
      ·rename_i hg;simp at hp;subst hp;exact ⟨by simpa using hg,.inr (.inr (.inl ⟨u,f,hop⟩))⟩
      ·cases hp
     ·rename_i q hop
      split at hp
      ·rename_i hg;simp at hp;subst hp;exact ⟨by simpa using hg,.inr (.inr (.inr hop))⟩
      ·cases hp
     ·cases hp
    refine ⟨hgo.1,p,hgo.2,?_⟩
    have hag:=Az (fr:=fr) (vals:=ys) (ls:=ZO i (ZZ l i)) (R:= [p]) hap (by grind) hlen (fun j hj=>by have:=Wl j hj;omega) fun t ht j hj hd=>by
     have h5:=ZC.1 h j (Xa.2 hj);simp at ht;subst ht;rw [hd] at h5
     grind
    rw [hag p Zb,hfin]
    exact ho)
  (fun i o hi him ho=>by
   have:=h3 i o (by
    grind [Bv])
   grind)
  (fun fr2 L ι1 a1 w1 k1 g1 f1=>Yq (P:=P) (ops:=List.toArray l) _ _ L _ k1 F ι1 a1 w1 g1.rel f1 fun fr' H' ι' a' w' k g f=>⟨fr',H',ι',k,g0.trans (g1.trans g),f⟩)
  n (Array.replicate l.length false) a { w with drawn:=w.drawn+1 }
  ⟨Zb,fun j oj _ hl=>(by grind [getD_replicate_false]),fun t _ ht=>getD_in (by grind) (getD_replicate_false _ _)⟩
  (by
   grind [List.filter_eq_self,getD_replicate_false])
  ⟨ms,[],H,⟨fun _=>rfl,fun _ _=>rfl⟩,hL3,fun m hm=>hm,fun m hm=>by grind [getD_replicate_false],fun p hp=>(by cases hp),by
    grind [NN],ι,⟨g0.rel,hf0.1,hf0.2.1,fun t x ht _=>hf0.2.2 t x ht,fun j d x _ hl=>by grind [getD_replicate_false]⟩,Good.refl g0.rel,fun p hp=>(by cases hp)⟩
 grind [Zv]
theorem HG {P ko l rem fr H K} (h:K fr H):Ar P ko l 0 rem fr H K:=h
theorem Gf {P ko l n rem fr H K} (m:Nat) (R:V->List Obj->Prop) (hr:Vy l rem= [m]) (h:Zx P (ZZ l m) fr H R) (k: ∀y H',R y H'->(∀k∈ko,oat H' k=oat H k)/\Ar P ko l n (rem.erase m) (Y7 fr (ZZ l m).dst y) H' K):Ar P ko l (n+1) rem fr H K:=fun m' hm'=>by
 rw [hr,List.mem_singleton] at hm';subst hm';exact ⟨R,.inl h,k⟩
@[go_sem] theorem Zji {H:List Obj} {n cs cs'} :E9 H n (.tup cs) (.tup cs')=(cs'=cs/\Xb n cs=true):=by simp [E9,jA,refB]
def eII (p:Int×Int):PV×PV:=(.int .i64 p.1,.int .i64 p.2)
def dH (P:Program) (t:TypeId):Option (TypeDesc×Option PV):=match P.underlying t with
 | some (.map kt et)=>(P.underlying kt).map fun d=>(d,zval P et)
 | _=>none
def Gm (l:List (Int×Int)) (k:Int):Option Nat:=l.findIdx? fun p=>decide (k=p.1)
def Kf (l:List (Int×Int)) (k:Int):Int:=match Gm l k with | some i=>((l[i]?).map (·.2)).getD 0 | none=>0
theorem Cr (k:Int): ∀(l:List (Int×Int)) (n:Nat),U5 (.int .i64 k) (l.map eII) n=(Gm l k).map fun i=>(n+i,.int .i64 (((l[i]?).map (·.2)).getD 0))
 | [],n=>by rfl
 | p::l,n=>by
  have ih:=Cr k l (n+1);simp only [ZN,U5,eII,keq]
  by_cases h:k=p.1
  ·simp [h,Gm,List.findIdx?_cons]
  ·simp only [h,Jn,Yj,Ys];rw [ih];simp only [Gm,List.findIdx?_cons,h,Jn,Yj,Ys]
   cases l.findIdx? (fun p=>decide (k=p.1)) with
   | none=>rfl
   | some i=>simp;omega
theorem LD {P t d z} (h:dH P t=some (d,z)): ∃kt et,P.underlying t=some (.map kt et)/\P.underlying kt=some d/\zval P et=z:=by
 unfold dH at h
 split at h
 ·rename_i kt et hu;simp only [Zr,Uf] at h
  grind
 ·cases h
theorem Gg {P:Program} {H:List Obj} {kt:TypeId} {o:Nat} {l:List (Int×Int)} {k:Int} (hd:P.underlying kt=some (.int .i64)) (hH:oat H o= .map (l.map eII)):Bt P H kt (.int .i64 k) o=some (l.map eII):=by
 simp [Bt,hH,mkey,hd,eII,kpair]
theorem Et {l:List (Int×Int)} {k:Int} {i:Nat} (h:Gm l k=some i): ∃v,l[i]? =some (k,v)/\Kf l k=v:=by
 grind [Gm,VY,Kf]
section
variable {P : Program} {H : List Obj} {t : TypeId} {o : Nat} {l : List (Int × Int)} {k : Int} {K : V -> List Obj -> Prop}
theorem LA (hT:dH P t=some (.int .i64,some (.int .i64 0))) (hH:oat H o= .map (l.map eII)) (h:K (.p (.int .i64 (Kf l k))) H):As (A0 P H t (.mp o) (.p (.int .i64 k)) false) K:=by
 obtain ⟨kt,et,h1,h2,h3⟩:=LD hT;simp only [A0,h1,Gg h2 hH,KR,Cr,h3]
 grind [Kf,As]
theorem NC {i:Nat} {v:Int} (hH:oat H o= .map (l.map eII)) (hm:Gm l k=some i) (h:(∀q,Kf (l.set i (k,v)) q=if q=k then v else Kf l q)->K .junk (H.set o (.map ((l.set i (k,v)).map eII)))):As (KC H (.mp o) (.p (.int .i64 (i:Nat))) (.p (.int .i64 v))) K:=by
 obtain ⟨u,q1,q2⟩:=Et hm;have hil:=(Zt.1 q1).1
 have e1:(l.map eII)[i]? =some (eII (k,u)):=by grind
 simp only [KC,hH,Int.natCast_nonneg,if_true,XK,e1,As]
 have e2:(l.map eII).set i ((eII (k,u)).1,.int .i64 v)=(l.set i (k,v)).map eII:=by rw [V4];rfl
 rw [e2];refine h fun q=> ?_
 have hkeys: ∀j:Nat,((l.set i (k,v))[j]?).map Prod.fst=(l[j]?).map Prod.fst:=fun j=>by
  grind
 have hmix: ∀q,Gm (l.set i (k,v)) q=Gm l q:=fun q=>by
  have key: ∀(a b:List (Int×Int)),a.map Prod.fst=b.map Prod.fst->Gm a q=Gm b q:=fun a b hab=>by
   have e: ∀c:List (Int×Int),Gm c q=(c.map Prod.fst).findIdx? fun z=>decide (q=z):=fun c=>by
    rw [List.findIdx?_map];rfl
   grind
  refine key _ _ (Ju fun j=> ?_)
  grind
 unfold Kf;rw [hmix]
 by_cases hq:q=k
 ·grind
 ·rw [if_neg hq]
  grind [Et]
end
end Go.AM
