/- Declarations that the closing texts need, part 19: joined by tools/slim.py. -/
import Derived.Test.YtiigdaohjanidaaGreatDoorI18
set_option linter.unusedVariables false
set_option linter.unusedSimpArgs false
namespace Go.Proofs.YtiigdaohjanidaaGreatDoor.K
open Go Go.AM Go.Proofs
def FP (x:Inst) (l:List Vis) (n i:Nat):Bool:=(l.take n).foldl (fun on v=>if v.order=(i:Int) then !v.drp else on) (decide ((nth x.orders i).pick.place<0))
theorem fM {x:Inst} {l:List Vis} {i:Nat} :FP x l 0 i=decide ((nth x.orders i).pick.place<0):=by simp [FP]
theorem ES {x:Inst} {l:List Vis} {n i:Nat} (h:n<l.length):FP x l (n+1) i=if (nth l n).order=(i:Int) then !(nth l n).drp else FP x l n i:=by
 grind [FP,Xo,Ze]
structure SqOk (x:Inst) (l:List Vis):Prop where
 ne:l≠ []
 inr:Inr x l
 nd:l.Nodup
 pair: ∀v∈l,pairB x.orders l v=true
theorem Um {x:Inst} {l:List Vis} (h:Xl x l=0):SqOk x l:=by
 unfold Xl at h
 split at h
 ·simp at h
 ·rename_i h1
  split at h
  ·simp at h
  ·split at h
   ·simp at h
   ·rename_i h3
    split at h
    ·simp at h
    ·rename_i h4;refine ⟨fun e=>h1 (.inl (by simp [e])),fun v hv=> ?_,A8.1 (by grind),fun v hv=> ?_⟩
     ·grind [VQ]
     grind
structure OwnV (x:Inst) (l:List Vis) (i:Nat):Prop where
 pick:0<=(nth x.orders i).pick.place->(⟨i,false⟩:Vis)∈l
 drp:0<=(nth x.orders i).drp.place->(⟨i,true⟩:Vis)∈l
 both:0<=(nth x.orders i).pick.place->0<=(nth x.orders i).drp.place->vIx l ⟨i,false⟩<vIx l ⟨i,true⟩
 isP:(⟨i,false⟩:Vis)∈l->0<=(nth x.orders i).pick.place
 isD:(⟨i,true⟩:Vis)∈l->0<=(nth x.orders i).drp.place
theorem SqOk.own {x:Inst} {l:List Vis} (h:SqOk x l) {i:Nat} (hi: ∃v∈l,v.order=(i:Int)):OwnV x l i:=by
 obtain ⟨v0,hv0,ho⟩:=hi
 have key: ∀v∈l,v.order=(i:Int)->v∈ZX x.orders i/\Qk l (-1) (ZX x.orders i)=true:=fun v hv hvo=>by
  have:=h.pair v hv;simp only [pairB,hvo,X6,ZO,Zl] at this;exact ⟨Y6.1 this.1,this.2⟩
 obtain ⟨_,hasc⟩:=key v0 hv0 ho;have mem: ∀b:Bool,(⟨i,b⟩:Vis)∈l->(⟨i,b⟩:Vis)∈ZX x.orders i:=fun b hb=>(key _ hb rfl).1
 have hp:(⟨i,false⟩:Vis)∈ZX x.orders i->0<=(nth x.orders i).pick.place:=fun hm=>by
  unfold ZX at hm
  grind
 have hd:(⟨i,true⟩:Vis)∈ZX x.orders i->0<=(nth x.orders i).drp.place:=fun hm=>by
  unfold ZX at hm
  grind
 have m1: ∀v,-1<vIx l v->v∈l:=fun v hv=>Y6.1 Za;unfold ZX at hasc
 by_cases c1:0<=(nth x.orders i).pick.place<;>by_cases c2:0<=(nth x.orders i).drp.place
 ·simp only [c1,c2,if_true,ZY,Xk,Qk,KX,ZO,Zl] at hasc;exact ⟨fun _=>m1 _ hasc.1,fun _=>m1 _ Za,fun _ _=>hasc.2,fun _=>c1,fun _=>c2⟩
 ·simp only [c1,c2,if_true,Yr,Qu,Qk,KX,Zl] at hasc;exact ⟨fun _=>m1 _ hasc,fun h=>absurd h c2,fun _ h=>absurd h c2,fun _=>c1,fun hm=>hd (mem _ hm)⟩
 ·simp only [c1,c2,if_true,Yr,Xk,Qk,KX,Zl] at hasc;exact ⟨fun h=>absurd h c1,fun _=>m1 _ hasc,fun h=>absurd h c1,fun hm=>hp (mem _ hm),fun _=>c2⟩
 ·exact ⟨fun h=>absurd h c1,fun h=>absurd h c2,fun h=>absurd h c1,fun hm=>hp (mem _ hm),fun hm=>hd (mem _ hm)⟩
theorem Q2 {l:List Vis} (hn:l.Nodup) {v:Vis} {n:Nat} :v∈l.take n↔0<=vIx l v/\vIx l v<(n:Int):=by
 constructor
 ·intro h;obtain ⟨j,h1,h2,rfl⟩:=UT h
  grind [QB]
 ·intro ⟨h1,h2⟩;obtain ⟨h3,h4⟩:=DW h1
  grind [Ki]
theorem fL {x:Inst} {l:List Vis} (h:SqOk x l) (i:Nat): ∀n,n<=l.length->FP x l n i=if (⟨i,true⟩:Vis)∈l.take n then false else if (⟨i,false⟩:Vis)∈l.take n then true else decide ((nth x.orders i).pick.place<0)
 | 0,_=>by simp [FP]
 | n+1,hn=>by
  have hk:n<l.length:=Za
  have hat:=QB h.nd hk;rw [ES hk,fL h i n Za]
  by_cases c:(nth l n).order=(i:Int)
  ·rw [if_pos c];have ho:=h.own (i:=i) ⟨nth l n,Zq hk,c⟩
   cases hd:(nth l n).drp with
   | true =>
    have hv:nth l n=⟨i,true⟩:=by rw [<- c,<- hd]
    rw [hv] at hat;have:(⟨i,true⟩:Vis)∈l.take (n+1):=(Q2 h.nd).2 Za;rw [if_pos this];rfl
   | false =>
    have hv:nth l n=⟨i,false⟩:=by rw [<- c,<- hd]
    rw [hv] at hat;have h1:(⟨i,false⟩:Vis)∈l.take (n+1):=(Q2 h.nd).2 Za
    have h2: ¬(⟨i,true⟩:Vis)∈l.take (n+1):=fun hm=>by
     have h3:=JA hm;have h4:=(Q2 h.nd).1 hm;have h5:=ho.both (ho.isP (JA h1)) (ho.isD h3);omega
    rw [if_neg h2,if_pos h1];rfl
  ·rw [if_neg c]
   have e: ∀b:Bool,((⟨i,b⟩:Vis)∈l.take (n+1))=((⟨i,b⟩:Vis)∈l.take n):=fun b=>by
    rw [Xo hk,XI,<- Ze hk];refine propext ⟨fun hm=>hm.resolve_right fun hm=> ?_,.inl⟩;simp at hm;exact c (by rw [<- hm])
   simp only [e]
theorem ZbE {x:Inst} {l:List Vis} (h:SqOk x l) {k i:Nat} (hk:k<l.length) (hi:(nth l k).order=(i:Int)):FP x l k i=(nth l k).drp:=by
 have hat:=QB h.nd hk;have ho:=h.own (i:=i) ⟨nth l k,Zq hk,hi⟩;have hm:=Zq hk;rw [fL h i k Za]
 cases hd:(nth l k).drp with
 | true =>
  have hv:nth l k=⟨i,true⟩:=by rw [<- hi,<- hd]
  rw [hv] at hat hm
  have h1: ¬(⟨i,true⟩:Vis)∈l.take k:=fun hm=>by have:=(Q2 h.nd).1 hm;omega
  rw [if_neg h1]
  by_cases c:0<=(nth x.orders i).pick.place
  ·have h2:=ho.both c (ho.isD hm);have h3:(⟨i,false⟩:Vis)∈l.take k:=(Q2 h.nd).2 ⟨Y6.2 (ho.pick c),Za⟩
   grind
  grind
 | false =>
  have hv:nth l k=⟨i,false⟩:=by rw [<- hi,<- hd]
  rw [hv] at hat hm;have hp:=ho.isP hm
  have h1: ¬(⟨i,false⟩:Vis)∈l.take k:=fun hm=>by have:=(Q2 h.nd).1 hm;omega
  grind
theorem pV {f g:Nat->Int} {i:Nat} (h: ∀q,q≠i->f q=g q): ∀n,i<n->((List.range n).map f).sum=((List.range n).map g).sum+(f i-g i):=by
 have same: ∀n,n<=i->((List.range n).map f).sum=((List.range n).map g).sum:=fun n hn=>by
  grind [YG]
 intro n
 induction n with
 | zero=>omega
 | succ n ih =>
  intro hi;simp only [Yx,X0,Zu,Zo,BI,Vy,List.sum_nil]
  grind
theorem P5 {f:Nat->Int} {b:Int} (hb:0<=b) (h: ∀q,0<=f q/\f q<=b): ∀n:Nat,0<=((List.range n).map f).sum/\((List.range n).map f).sum<=b*n
 | 0=>Zb
 | n+1=>by
  have ih:=P5 hb h n
  grind [Yx]
theorem JK {p:Nat->Bool} {f:Nat->Int} : ∀l:List Nat,((l.filter p).map f).sum=(l.map fun i=>if p i=true then f i else 0).sum
 | []=>rfl
 | a::l=>by
  rw [List.filter_cons,Zu,Vy]
  by_cases h:p a=true
  ·rw [if_pos h,Zu,Vy,JK l,if_pos h]
  ·rw [if_neg h,JK l,if_neg h];omega
def Dv (x:Inst) (l:List Vis) (n j:Nat):Int:=((List.range x.orders.length).map fun i=>if (FP x l n i&&hasO l i)=true then nth (nth x.orders i).load j else 0).sum
theorem GX {x:Inst} {l:List Vis} (h:SqOk x l) {k j:Nat} (hk:k<l.length):Dv x l (k+1) j=if (nth l k).drp=true then Dv x l k j-nth (nth x.orders (nth l k).order.toNat).load j else Dv x l k j+nth (nth x.orders (nth l k).order.toNat).load j:=by
 obtain ⟨v1,v2⟩:=h.inr _ (Zq hk);obtain ⟨i,hi⟩: ∃i:Nat,(nth l k).order=(i:Int):=⟨(nth l k).order.toNat,Za⟩;have hh:hasO l (i:Int)=true:=Xj.2 ⟨_,Zq hk,hi⟩;have h1:=ZbE h hk hi
 have h2:FP x l (k+1) i= !(nth l k).drp:=by simp_all [ES]
 unfold Dv
 rw [pV (f:=fun i=>if (FP x l (k+1) i&&hasO l i)=true then nth (nth x.orders i).load j else 0) (g:=fun i=>if (FP x l k i&&hasO l i)=true then nth (nth x.orders i).load j else 0) (i:=i) (fun q hq=>by
  have:FP x l (k+1) q=FP x l k q:=by rw [ES hk,if_neg Za]
  grind) x.orders.length Za]
 grind
def Wa (x:Inst) (l:List Vis) (n:Nat):List Int:=(List.range (dimsOf x.types).toNat).map fun j=>Dv x l n j
def D2 (a b:List Int):List Int:=(List.range a.length).map fun j=>nth a j+nth b j
def pS (a b:List Int):List Int:=(List.range a.length).map fun j=>nth a j-nth b j
theorem D4 {x:Inst} {l:List Vis} {n:Nat} :(Wa x l n).length=(dimsOf x.types).toNat:=by simp [Wa]
theorem Kn {f:Nat->Int} {n j:Nat} (h:j<n):nth ((List.range n).map f) j=f j:=by
 grind [Ze]
theorem Rn {x:Inst} {l:List Vis} (h:SqOk x l) {k:Nat} (hk:k<l.length):Wa x l (k+1)=if (nth l k).drp=true then pS (Wa x l k) (nth x.orders (nth l k).order.toNat).load else D2 (Wa x l k) (nth x.orders (nth l k).order.toNat).load:=by
 have key: ∀g:Nat->Int,(∀j,j<(dimsOf x.types).toNat->Dv x l (k+1) j=g j)->Wa x l (k+1)=(List.range (dimsOf x.types).toNat).map g:=fun g hg =>
  YG fun j hj=>hg j (ZQ.1 hj)
 split
 ·simp_all [pS,GX,Wa,Kn]
 simp_all [D2,GX,Wa,Kn]
structure RightV (x:Inst) (l:List Vis):Prop where
 ne:l≠ []
 inr:Inr x l
 off: ∀v∈l,(nth x.orders v.order.toNat).off=false
 nodup:l.Nodup
 pair: ∀v∈l,pairB x.orders l v=true
 apart: ∀p∈x.apart,¬(hasO l p.1=true/\hasO l p.2=true)
 before: ∀p∈x.before,beforeB l p.1 p.2=true
theorem SZ {x:Inst} {l:List Vis} :Xl x l=0↔RightV x l:=by
 unfold Xl;rw [Vd Za,Vd Za,Vd Za,Vd Za,Vd Za,Vd Za];simp only [and_true,V0,A8]
 have hin:l.any (VQ x)=false↔Inr x l:=by
  rw [XV];exact ⟨fun h v hv=>by grind [VQ],fun h v hv=>by simpa [VQ] using h v hv⟩
 constructor
 ·rintro ⟨h1,h2,h3,h4,h5,h6⟩;rw [not_or,V0,hin] at h1;rw [XV] at h2 h5 h6;refine ⟨fun e=>h1.1 (by rw [e];rfl),h1.2,fun v hv=>by grind,h3,?_,fun p hp=>by grind,fun p hp=>by grind⟩
  grind
 ·intro h;refine ⟨?_,?_,h.nodup,?_,?_,?_⟩
  ·rw [not_or,V0,hin];exact ⟨fun e=>h.ne (Zy e),h.inr⟩
  ·rw [XV];intro v hv;simp [h.off v hv]
  ·rw [Zv.2 h.pair];simp
  ·rw [XV];intro p hp;simpa using h.apart p hp
  ·rw [XV];intro p hp;simpa using h.before p hp
theorem GI {os:List Ord} {l:List Vis} {v:Vis} {i:Nat} (h:v.order=(i:Int)):pairB os l v=true↔v∈ZX os i/\(∀w∈ZX os i,w∈l)/\((⟨i,false⟩:Vis)∈ZX os i->(⟨i,true⟩:Vis)∈ZX os i->vIx l ⟨i,false⟩<vIx l ⟨i,true⟩):=by
 rw [pairB,h,X6,ZO,Zl,Y6];refine and_congr Iff.rfl ?_
 have hm: ∀w:Vis,-1<vIx l w↔w∈l:=fun w=>by grind [Y6]
 rcases JN os i with e | e | e | e<;>rw [e]
 ·simp [Qk]
 ·simp [Qk,hm]
 ·simp [Qk,hm]
 ·simp only [Qk,KX,ZO,Zl,hm,Xs,Ui,or_false,forall_eq_or_imp,forall_eq]
  grind
section
variable {x : Inst} {l : List Vis}
theorem RightV.bit (h:RightV x l) (i:Nat):(Z8 l).testBit i=true↔ ∃v∈l,v.order=(i:Int):=by
 rw [BT];exact ⟨fun ⟨v,hv,e⟩=>⟨v,hv,by have:=h.inr v hv;omega⟩,fun ⟨v,hv,e⟩=>⟨v,hv,Za⟩⟩
theorem RightV.lt (h:RightV x l) (hf:IFacts x):Z8 l<9223372036854775808/\Z8 l / pw x.orders.length=0:=by
 have h1:Z8 l<9223372036854775808:=by
  have:=Ag l.length (l:=l) (Xf _) (fun v hv=>by
   rw [X7] at hv;have:=h.inr v hv;have:=hf.len
   simp [FK];omega)
  grind
 refine ⟨h1,RJ h1 fun j _ hj=> ?_⟩;obtain ⟨v,hv,e⟩:=(h.bit j).1 hj;have:=h.inr v hv;omega
theorem RightV.ord (h:RightV x l) (hf:IFacts x):JF l=(((Z8 l:Nat):Int),0):=by
 rw [JF,if_pos];rw [Zv];intro v hv;have:=h.inr v hv;have:=hf.len;simp [FK];omega
theorem RightV.pairs (h:RightV x l) {v:Vis} (hv:v∈l): ∃i:Nat,v.order=(i:Int)/\i<x.orders.length/\v∈ZX x.orders i/\(∀w∈ZX x.orders i,w∈l)/\((⟨i,false⟩:Vis)∈ZX x.orders i->(⟨i,true⟩:Vis)∈ZX x.orders i->vIx l ⟨i,false⟩<vIx l ⟨i,true⟩):=by
 have h1:=h.inr v hv
 have e:v.order=(v.order.toNat:Int):=Za
 exact ⟨v.order.toNat,e,Za,(GI e).1 (h.pair v hv)⟩
theorem RightV.step (h:RightV x l) {a b:Nat} (hE:Ed x.before a b) (hb:0<=AZ l b):0<=AZ l a/\AZ l a<AZ l b:=by
 obtain ⟨p,hp,e1,e2⟩:=hE;have hbe:=VJ.1 (h.before p hp);rw [e1,e2] at hbe;obtain ⟨h1,h2⟩:=hbe hb;have h0:=Ae.2 h1;obtain ⟨g1,g2,_⟩:=BQ h0
 grind
theorem RightV.chain (h:RightV x l) {a b:Nat} (hc:Ch x.before a b) (hb:0<=AZ l b):0<=AZ l a/\AZ l a<AZ l b:=by
 induction hc with
 | one hE=>exact h.step hE hb
 | more _ hE ih =>
  have h1:=h.step hE hb;omega
theorem RightV.alw (h:RightV x l) (hf:IFacts x):Alw x (Z8 l):=by
 have hn:x.orders.length<=60:=by have:=hf.len;omega
 refine ⟨fun i hi hb=> ?_,?_,fun p hp hb=> ?_,fun i hi hb hc=> ?_⟩
 ·obtain ⟨v,hv,e⟩:=(h.bit i).1 hb;have:=h.off v hv
  grind
 ·rw [apB,XV];intro p hp;have hv:=hf.aval p hp;rw [VP h.inr hn _ Za,VP h.inr hn _ Za,ZO];exact h.apart p hp
 ·have hv:=hf.val p hp;rw [VP h.inr hn _ Za] at hb ⊢;rw [Xj] at hb ⊢;exact (VJ.1 (h.before p hp) (Ae.2 hb)).1
 ·have hb2:=Ae.2 ((h.bit i).1 hb);have:=(h.chain hc hb2).2;omega
theorem RightV.gr (h:RightV x l) (hf:IFacts x): ∀k,k<=l.length->Gr x (Z8 l) (l.take k)
 | 0,_=>by simpa using Gr.nil
 | k+1,hk=>by
  have hk2:k<l.length:=Za
  have ih:=h.gr hf k Za
  have e:l.take (k+1)=l.take k++ [nth l k]:=by rw [Xo hk2,Ze hk2]
  rw [e];obtain ⟨i,e1,hi,h1,h2,h3⟩:=h.pairs (Zq hk2);refine .snoc ih (VM.2 ⟨i,hi,(h.bit i).2 ⟨_,Zq hk2,e1⟩,?_,h1,(VB h1).2 ⟨?_,?_,?_⟩⟩)
  ·have:=h.off _ (Zq hk2)
   grind
  ·intro hm;obtain ⟨j,j1,j2,j3⟩:=UT hm;have q1:=QB h.nodup j2;have q2:=QB h.nodup hk2
   grind
  ·intro hd hq
   have e2:nth l k=⟨i,true⟩:=by rw [Iz];grind
   have h4:=h3 hq (by grind);rw [<- e2,QB h.nodup hk2] at h4;have h5:=Y6.2 (h2 _ hq);obtain ⟨g1,g2⟩:=DW h5;rw [<- g2];exact Ki Za g1
  ·intro p hp hpe w hw;obtain ⟨v1,v2,v3,v4⟩:=hf.val p hp;have hoi:=fI hk2 e1;have hbe:=VJ.1 (h.before p hp);rw [hpe] at hbe;obtain ⟨⟨v,hv,ev⟩,h5⟩:=hbe hoi.1;obtain ⟨a,a1,a2,a3,a4,a5⟩:=h.pairs hv
   have:a=p.1.toNat:=Za
   subst this;have hwl:=a4 w hw;obtain ⟨g1,g2⟩:=DW (Y6.2 hwl);have h6:=h5 _ g1 (by rw [g2,Yz hw];omega);rw [<- g2];exact Ki Za g1
theorem RightV.len (h:RightV x l) (hf:IFacts x):l.length=Ax x (Z8 l) x.orders.length:=by
 have h1:=h.gr hf l.length (Xf _);rw [X7] at h1;have h2:=h1.len
 have h3: ∀v∈AJ x (Z8 l) x.orders.length,v∈l:=fun v hv=>by
  obtain ⟨i,i1,i2,i3⟩:=WH.1 hv;obtain ⟨w,hw,e⟩:=(h.bit i).1 i2;obtain ⟨a,a1,a2,a3,a4,a5⟩:=h.pairs hw
  grind
 have h4:=DU (AK _ _ _) h3;rw [QF] at h4;omega
theorem Gr.at {S:Nat} (h:Gr x S l): ∀k,k<l.length->nth l k∈nextU x S (l.take k) x.orders.length:=by
 induction h with
 | nil=>simp
 | snoc h hv ih =>
  rename_i l v;intro k hk;simp at hk;rcases Wh k l.length with h2 | h2
  ·grind [Ze]
  ·have:k=l.length:=Za
   simp_all [Ze]
theorem Gr.right {S:Nat} (h:Gr x S l) (hf:IFacts x) (ha:Alw x S) (h0:S≠0) (hS:S / pw x.orders.length=0) (hl:l.length=Ax x S x.orders.length):RightV x l/\Z8 l=S:=by
 have hn:x.orders.length<=60:=by have:=hf.len;omega
 have hfull:=h.full hl
 have hsub: ∀v∈l,∃i:Nat,v.order=(i:Int)/\i<x.orders.length/\S.testBit i=true/\v∈ZX x.orders i:=fun v hv=>by
  obtain ⟨i,i1,i2,i3⟩:=WH.1 (h.sub v hv);exact ⟨i,Yz i3,i1,i2,i3⟩
 have hinr:Inr x l:=fun v hv=>by grind
 have hgo: ∀k,k<l.length-> ∃i:Nat,(nth l k).order=(i:Int)/\nth l k∈ZX x.orders i/\nth l k ∉ l.take k/\((nth l k).drp=true->(⟨i,false⟩:Vis)∈ZX x.orders i->(⟨i,false⟩:Vis)∈l.take k)/\ ∀p∈x.before,p.2=(i:Int)-> ∀w∈ZX x.orders p.1.toNat,w∈l.take k:=fun k hk=>by
  obtain ⟨i,i1,i2,i3,i4,i5⟩:=VM.1 (h.at k hk);obtain ⟨r1,r2,r3⟩:=(VB i4).1 i5;exact ⟨i,Yz i4,i4,r1,r2,r3⟩
 have hbit:Z8 l=S:=K2 fun i=>by
  rw [YO,BT]
  constructor
  ·grind
  ·intro hb;have hi:=Nt hS hb;obtain ⟨w,hw⟩:=List.exists_mem_of_ne_nil _ (hf.vne i hi);have:=Yz hw;exact ⟨w,hfull w (WH.2 ⟨i,hi,hb,hw⟩),Za⟩
 refine ⟨⟨fun e=> ?_,hinr,fun v hv=> ?_,h.nodup,fun v hv=> ?_,fun p hp=> ?_,fun p hp=> ?_⟩,hbit⟩
 ·have:=P6 hf.vne hS h0
  grind
 ·obtain ⟨i,i1,i2,i3,i4⟩:=hsub v hv;rw [i1,X6];exact ha.off i i2 i3
 ·obtain ⟨i,i1,i2,i3,i4⟩:=hsub v hv;refine (GI i1).2 ⟨i4,fun w hw=>hfull w (WH.2 ⟨i,i2,i3,hw⟩),fun hq1 hq2=> ?_⟩;have m2:=Y6.2 (hfull _ (WH.2 ⟨i,i2,i3,hq2⟩));obtain ⟨g1,g2⟩:=DW m2;obtain ⟨j,j1,j2,j3,j4,j5⟩:=hgo _ g1;rw [g2] at j1 j4
  have:j=i:=by grind
  subst this;obtain ⟨q,q1,q2,q3⟩:=UT (j4 rfl hq1);have:=(Zcf q2).2
  grind
 ·have:=ha.apart;rw [apB,XV] at this;have h2:=this p hp;have hv:=hf.aval p hp;rw [<- hbit,VP hinr hn _ Za,VP hinr hn _ Za,ZO] at h2;exact h2
 ·rw [VJ];intro hb;have hv:=hf.val p hp;obtain ⟨g1,g2,g3⟩:=BQ hb;obtain ⟨j,j1,j2,j3,j4,j5⟩:=hgo _ g1;have hall:=j5 p hp Za;refine ⟨?_,fun q hq e=> ?_⟩
  ·obtain ⟨w,hw⟩:=List.exists_mem_of_ne_nil _ (hf.vne p.1.toNat Za);exact ⟨w,JA (hall w hw),by rw [Yz hw];omega⟩
  ·obtain ⟨i,i1,i2,i3,i4⟩:=hsub _ (Zq hq)
   have:i=p.1.toNat:=Za
   subst this;obtain ⟨q2,r1,r2,r3⟩:=UT (hall _ i4);have e1:=QB h.nodup r2;have e2:=QB h.nodup hq
   grind
end
set_option maxRecDepth 8000
section
variable {σ : Type}
def M3 (nx:List Vis->List Vis):Nat->List Vis->List (List Vis)
 | 0,l=> [l]
 | f+1,l=>if nx l= [] then [l] else (nx l).flatMap fun v=>M3 nx f (l++ [v])
def lvW (nx:List Vis->List Vis) (go:σ->Vis->σ) (emp:σ->Bool):Nat->List Vis->σ->List (List Vis)
 | 0,l,_=> [l]
 | f+1,l,s=>(nx l).flatMap fun v=>if emp (go s v)=true then [] else lvW nx go emp f (l++ [v]) (go s v)
theorem Px {nx:List Vis->List Vis} : ∀(f:Nat) (l m:List Vis),m∈M3 nx f l-> ∃r,m=l++r
 | 0,l,m,h=>by simp_all [M3]
 | f+1,l,m,h=>by
  rw [M3] at h
  split at h
  ·simp_all
  ·obtain ⟨v,_,h⟩:=YN.1 h;obtain ⟨r,rfl⟩:=Px f _ m h;simp
theorem VW {α β:Type} {p:β->Bool} {g:α->List β} : ∀l:List α,(l.flatMap g).filter p=l.flatMap fun a=>(g a).filter p
 | []=>rfl
 | a::l=>by rw [BC,BC,List.filter_append,VW l]
theorem Bs {α β:Type} {g h:α->List β} : ∀ {l:List α},(∀a∈l,g a=h a)->l.flatMap g=l.flatMap h
 | [],_=>rfl
 | a::l,e=>by rw [BC,BC,e a Zb,Bs fun b hb=>e b (Yv _ hb)]
theorem tA {nx:List Vis->List Vis} {go:σ->Vis->σ} {emp:σ->Bool} {ok:List Vis->Bool} {G:List Vis->Prop} {R:List Vis->σ->Prop} {tot:Nat}
  (hG: ∀l v,G l->v∈nx l->G (l++ [v])) (hR: ∀l s v,G l->R l s->v∈nx l->R (l++ [v]) (go s v)) (hE: ∀l s,G l->R l s->emp s=true-> ∀r,ok (l++r)=false)
  (hN: ∀l,G l->l.length<tot->nx l≠ []): ∀(f:Nat) (l:List Vis) (s:σ),G l->R l s->l.length+f=tot->(M3 nx f l).filter ok=(lvW nx go emp f l s).filter ok
 | 0,l,s,_,_,_=>rfl
 | f+1,l,s,hl,hs,ht=>by
  rw [M3,lvW,if_neg (hN l hl Za),VW,VW];refine Bs fun v hv=> ?_;have h1:=hG l v hl hv;have h2:=hR l s v hl hs hv
  split
  ·rename_i he;rw [List.filter_nil,List.filter_eq_nil_iff];intro m hm;obtain ⟨r,rfl⟩:=Px f _ m hm
   grind
  ·exact tA hG hR hE hN f _ _ h1 h2 (by simp;omega)
def Wu (ok:List Vis->Bool) (col:List Vis->Col) (better:Col->Col->Bool) (b:Col×Bool) (l:List Vis):Col×Bool:=if ok l=true/\(b.2=false\/better (col l) b.1=true) then (col l,true) else b
theorem Qf {ok:List Vis->Bool} {col:List Vis->Col} {better:Col->Col->Bool} : ∀(L:List (List Vis)) (b:Col×Bool),L.foldl (Wu ok col better) b=(L.filter ok).foldl (Wu ok col better) b
 | [],b=>rfl
 | l::L,b=>by
  rw [Yp,List.filter_cons]
  split
  ·rw [Yp];exact Qf L _
  ·rename_i h;rw [Wu,if_neg (fun g=>h g.1)];exact Qf L b
end
set_option maxRecDepth 60000
set_option maxHeartbeats 8000000
def Dn (x:Inst) (n:Int):Prop:=x.orders.length<=n/\x.types.length<=2/\x.net.places.length<=6/\x.net.arcs.length<=40/\x.apart.length<=4/\x.before.length<=4/\InstOk x
theorem Gh (x:Inst) (hw:x.wf 1048576) (n:Int) (b:Bool) (hb:b=true↔Dn x n):PC 34 [.p (ZG x),.p (.int .i64 n)] (.bool b):=by
 have w1:=hw.1.1;have w2:=hw.1.2.2.1;have w3:=hw.2.1;have w4:=hw.2.2.2.1;have w5:=hw.2.2.2.2.2.1;have w6:=hw.2.2.2.2.2.2.2.1
 suffices hh:ACalls Tryz.prog 34 [.p (ZG x),.p (.int .i64 n)] [] fun y H'=> ∃b:Bool,(b=true↔Dn x n)/\y= .p (.bool b)/\H'= [] by
  grind
 refine ACalls.pureE (Yc Tryz.func34 rfl Zhi (Zg [] _ _ _ _ ?_));simp (disch:=omega) only [Tryz.f34,go_sem,seval];refine gT ?_ ?_<;>intro h1<;>simp (disch:=omega) only [Sh.out h1,go_sem,seval,↓reduceIte]
 ·refine gT ?_ ?_<;>intro h2<;>simp (disch:=omega) only [Sh.out h2,go_sem,seval,↓reduceIte]
  ·refine gT ?_ ?_<;>intro h3<;>simp (disch:=omega) only [Sh.out h3,go_sem,seval,↓reduceIte]
   ·refine gT ?_ ?_<;>intro h4<;>simp (disch:=omega) only [Sh.out h4,go_sem,seval,↓reduceIte]
    ·refine gT ?_ ?_<;>intro h5<;>simp (disch:=omega) only [Sh.out h5,go_sem,seval,↓reduceIte]
     ·refine gT ?_ ?_<;>intro h6<;>simp (disch:=omega) only [Sh.out h6,go_sem,seval,↓reduceIte]
      ·refine ((wC x hw).frozenE).useV fun m hm=> ?_;refine Wt ?_;refine ⟨decide (m.length=0),?_,Zb⟩;have:=hm.emp;rw [Zl,List.length_eq_zero_iff,this];exact ⟨fun h=>⟨Za,Za,Za,Za,Za,Za,h⟩,fun h=>h.2.2.2.2.2.2⟩
      ·exact ⟨false,by simp [Dn];omega,rfl⟩
     ·exact ⟨false,by simp [Dn];omega,rfl⟩
    ·exact ⟨false,by simp [Dn];omega,rfl⟩
   ·exact ⟨false,by simp [Dn];omega,rfl⟩
  ·exact ⟨false,by simp [Dn];omega,rfl⟩
 ·exact ⟨false,by simp [Dn];omega,rfl⟩
theorem qG (x:Inst) (s:List UInt8) (ho:x.orders.length<=1048576):PC 79 [.p (ZG x),.p (.str s)] (.int .i64 (CA x.orders s)):=by
 refine Zc Tryz.func79 rfl Zhy ?_;simp (disch:=omega) only [Tryz.f79,go_sem,seval];refine Zk [1,8,9] (fun k:Nat=> [(10,.p (.int .i64 k))]) (fun _=> [Zj x]) (fun k=>k<=x.orders.length/\ ∀j,j<k->(nth x.orders j).name≠s) (fun k=>x.orders.length-k) 0 Zb (Weak.mk ?_) ?_
 ·simp (disch:=omega) only [Zj,go_sem,seval]
 ·rintro k ⟨hk,hno⟩;refine Wy ?_;refine cD ?_ ?_<;>intro h<;>simp (disch:=omega) only [Sh.out h,go_sem,seval,↓reduceIte]
  ·have hk2:k<x.orders.length:=Za
   refine ZN ?_ ?_<;>intro h2
   ·grind [nD]
   ·exact ⟨k+1,⟨Za,Zm.2 ⟨hno,h2⟩⟩,Za,wk⟩
  grind [nE]
theorem Tf (ds:List Inst) (c:Bool) (hl:ds.length<=1048576) (hw: ∀x∈ds,x.wf 1048576) :
  ACalls Tryz.prog 9 [.p (.list c (ds.map ZG))] [] fun y H'=> ∃b:Bool,(b=true->ds.length<=3/\ ∀x∈ds,Dn x 2)/\y= .p (.bool b)/\H'= []:=by
 refine ACalls.pureE (Yc Tryz.func9 rfl Zmq (Zg [] _ _ _ _ ?_));simp (disch:=omega) only [Tryz.f9,go_sem,seval];refine cD ?_ ?_<;>intro h<;>simp (disch:=omega) only [Sh.out h,go_sem,seval]
 ·simp
 ·refine Zk [0] (fun k:Nat=> [(3,.p (.int .i64 k))]) (fun _=> []) (fun k=>k<=ds.length/\ ∀j,j<k->Dn (nth ds j) 2) (fun k=>ds.length-k) 0 Zb (Weak.mk ?_) ?_
  ·simp (disch:=omega) only [go_sem,seval,↓reduceIte]
  ·rintro k ⟨hk,hno⟩;refine Wt ?_;refine cD ?_ ?_<;>intro h1<;>simp (disch:=omega) only [Sh.out h1,go_sem,seval,↓reduceIte]
   ·have hk2:k<ds.length:=Za
    have hwk:=hw _ (Zq hk2);have hw0:=hw _ (Zq (show 0<ds.length by omega));have w3:=hwk.2.1;have w4:=hw0.2.1
    by_cases hp:Dn (nth ds k) 2
    ·have cf:=Gh (nth ds k) hwk 2 true (by simp [hp]);refine XR (Wt ?_);refine Zp (cf) (Wt ?_);refine cD ?_ ?_<;>intro h3<;>simp (disch:=omega) only [Sh.out h3,go_sem,seval,↓reduceIte]
     ·simp
     ·exact ⟨k+1,⟨Za,Zm.2 ⟨hno,hp⟩⟩,Za,wk⟩
    ·have cf:=Gh (nth ds k) hwk 2 false (by simp [hp]);refine XR (Wt ?_);refine Zp (cf) (Wt ?_);simp
   ·have hkl:k=ds.length:=Za
    subst hkl;refine ⟨true,fun _=>⟨Za,fun x hx=> ?_⟩,rfl⟩;obtain ⟨j,hj,rfl⟩:=ZP.1 hx
    grind [Ze]
def rtB (r:Rte):Bool:=decide (r.visits.length<=8)&&decide (r.rests.length<=9)
def pN (p:Pln):Bool:=(decide (p.routes.length<=4)&&decide (p.unserved.length<=6))&&p.routes.all rtB
def plB (l:List Pln):Bool:=decide (l.length<=4)&&l.all pN
theorem ZbO {l:List Pln} {k:Nat} (hk:k<l.length) (h:pN (nth l k)=false):plB l=false:=by
 grind [plB,Zq]
theorem Zb4 {p:Pln} {k:Nat} (hk:k<p.routes.length) (h:rtB (nth p.routes k)=false):pN p=false:=by
 grind [pN,Zq]
theorem Zgf {α:Type} [Inhabited α] {f:α->Bool} {l:List α} (h: ∀j,j<l.length->f (nth l j)=true):l.all f=true:=by
 rw [Zv];intro r hr;obtain ⟨j,hj,rfl⟩:=ZP.1 hr
 grind [Ze]
theorem SO (l:List Pln) (c:Bool) (hl:l.length<=1048576) (hw: ∀p∈l,p.wf 1048576) :
  PC 15 [.p (.list c (l.map Ue))] (.bool (plB l)):=by
 refine Zc Tryz.func15 rfl Zhe ?_;simp (disch:=omega) only [Tryz.f15,go_sem,seval];refine cD ?_ ?_<;>intro h<;>simp (disch:=omega) only [Sh.out h,go_sem,seval]
 ·grind [plB]
 ·refine Zk [0] (fun k:Nat=> [(3,.p (.int .i64 k))]) (fun _=> []) (fun k=>k<=l.length/\ ∀j,j<k->pN (nth l j)=true) (fun k=>l.length-k) 0 Zb (Weak.mk ?_) ?_
  ·simp (disch:=omega) only [go_sem,seval,↓reduceIte]
  ·rintro k ⟨hk,hno⟩;refine Wt ?_;refine cD ?_ ?_<;>intro h1<;>simp (disch:=omega) only [Sh.out h1,go_sem,seval,↓reduceIte]
   ·have hk2:k<l.length:=Za
    obtain ⟨w1,w2,w3,w4⟩:=hw _ (Zq hk2);have hbad:=ZbO hk2;refine gF ?_ ?_<;>intro h2<;>simp (disch:=omega) only [Sh.out h2,go_sem,seval,↓reduceIte]
    ·grind [pN]
    ·refine cD ?_ ?_<;>intro h3<;>simp (disch:=omega) only [Sh.out h3,go_sem,seval]
     ·rw [hbad (by rw [pN,WU (p:=(nth l k).unserved.length<=6) Za,DH];rfl)]
     ·refine Zk [0,3] (fun q:Nat=> [(4,.p (.int .i64 q))]) (fun _=> []) (fun q=>q<=(nth l k).routes.length/\ ∀j,j<q->rtB (nth (nth l k).routes j)=true) (fun q=>(nth l k).routes.length-q) 0 Zb (Weak.mk ?_) ?_
      ·simp (disch:=omega) only [go_sem,seval,↓reduceIte]
      ·rintro q ⟨hq,hin⟩;refine Wt ?_;refine cD ?_ ?_<;>intro h4<;>simp (disch:=omega) only [Sh.out h4,go_sem,seval,↓reduceIte]
       ·have hq2:q<(nth l k).routes.length:=Za
        obtain ⟨_,_,u1,_,u2,_⟩:=w2 _ (Zq hq2);have hb2:=Zb4 hq2;refine gF ?_ ?_<;>intro h5<;>simp (disch:=omega) only [Sh.out h5,go_sem,seval,↓reduceIte]
        ·grind [rtB]
        ·refine cD ?_ ?_<;>intro h6<;>simp (disch:=omega) only [Sh.out h6,go_sem,seval,↓reduceIte]
         ·rw [hbad (hb2 (by rw [rtB,WU (p:=(nth (nth l k).routes q).rests.length<=9) Za,DH]))]
         ·exact ⟨q+1,⟨Za,Zm.2 ⟨hin,by rw [rtB,ZO,Zl,Zl];omega⟩⟩,Za,wk⟩
       ·have hql:q=(nth l k).routes.length:=Za
        subst hql
        have hgood:pN (nth l k)=true:=by
         rw [pN,Zgf hin,KX,ZO,Zl,Zl];omega
        exact ⟨k+1,⟨Za,Zm.2 ⟨hno,hgood⟩⟩,Za,wk⟩
   ·have hkl:k=l.length:=Za
    subst hkl
    have:plB l=true:=by rw [plB,Zgf hno,KX,Zl];omega
    rw [this]
def iZ {α:Type} [Inhabited α] (l:List α) (j:Nat):List α:=(l.set j (nth l (j-1))).set (j-1) (nth l j)
theorem jA {α:Type} [Inhabited α] {l:List α} {j:Nat} :(iZ l j).length=l.length:=by simp [iZ]
theorem Tn {α:Type} [Inhabited α] {l:List α} {j:Nat} (h:j<l.length):(iZ l j).Perm l:=by
 grind [iZ,Ze,List.set_set_perm]
def dnF {α:Type} [Inhabited α] (lt:α->α->Bool):Nat->List α->List α
 | 0,m=>m
 | j+1,m=>if lt (nth m (j+1)) (nth m j)=true then dnF lt j (iZ m (j+1)) else m
def iS {α:Type} [Inhabited α] (lt:α->α->Bool):Nat->List α->List α
 | 0,l=>l
 | i+1,l=>dnF lt i (iS lt i l)
theorem Le {α:Type} [Inhabited α] {lt:α->α->Bool} : ∀(j:Nat) (m:List α),j<m.length->(dnF lt j m).Perm m
 | 0,_,_=> .refl _
 | j+1,m,h=>by
  rw [dnF]
  split
  ·exact (Le j _ (by rw [jA];omega)).trans (Tn h)
  ·exact .refl _
theorem Tg {α:Type} [Inhabited α] {lt:α->α->Bool} {l:List α} : ∀i,i<=l.length->(iS lt i l).Perm l
 | 0,_=> .refl _
 | i+1,h=>by
  have ih:=Tg (lt:=lt) (l:=l) i Za;exact (Le i _ (by rw [ih.length_eq];omega)).trans ih
theorem P1 {α:Type} [Inhabited α] {lt:α->α->Bool} {l:List α} (hs: ∀a b,a<b->b<l.length->lt (nth l b) (nth l a)=false): ∀i,i<=l.length->iS lt i l=l
 | 0,_=>rfl
 | i+1,h=>by
  rw [iS,P1 hs i Za]
  cases i with
  | zero=>rfl
  | succ i=>rw [dnF,if_neg (by grind)]
def HY (l:List Vis):Int:=match l with
 | []=> -1
 | v::m=>m.foldl (fun n w=>if w.order<n then w.order else n) v.order
def Zgi (a b:Rte):Bool:=decide (a.typ<b.typ)||(decide (a.typ=b.typ)&&decide (HY a.visits<HY b.visits))
def QA (l:List Pt) (t:Int) (i:Nat):Bool:=decide ((nth l i).t<=t)&&decide (t<(nth l (i+1)).t)
def FW (p q:Pt) (t:Int):Int:=p.a+((t-p.t)*(q.a-p.a)+q.t-p.t-1) / (q.t-p.t)
def Je (l:List Pt) (t:Int):Int:=match (List.range (l.length-1)).find? (QA l t) with
 | some i=>FW (nth l i) (nth l (i+1)) t
 | none=>if (nth l 0).t<t then t+(nth l (l.length-1)).a-(nth l (l.length-1)).t else t+(nth l 0).a-(nth l 0).t
theorem Ho {l:List Pt} {t:Int} {i:Nat} (hi:i+1<l.length) (hno: ∀j,j<i->QA l t j=false) (h:QA l t i=true):Je l t=FW (nth l i) (nth l (i+1)) t:=by
 have:(List.range (l.length-1)).find? (QA l t)=some i:=by
  grind [List.find?_eq_some_iff_getElem]
 rw [Je,this]
theorem DA {l:List Pt} {t:Int} (hno: ∀j,j+1<l.length->QA l t j=false):Je l t=if (nth l 0).t<t then t+(nth l (l.length-1)).a-(nth l (l.length-1)).t else t+(nth l 0).a-(nth l 0).t:=by
 grind [Je]
theorem Fe {p q:Pt} {t:Int} (h1:p.t<=t) (h2:t<q.t) (hp:0<=p.t) (hq:q.t<=4096) (ha:p.a<=q.a) (hpa:0<=p.a) (hqa:q.a<=8192):0<=(t-p.t)*(q.a-p.a)/\(t-p.t)*(q.a-p.a)<=33554432:=by
 refine ⟨V1 Za Za,?_⟩;have:(t-p.t)*(q.a-p.a)<=4096*8192:=Vx Za Za Za Za;omega
theorem Nj (l:List Pt) (c:Bool) (t:Int) (hl:WK l) (ht:0<=t/\t<=1073741824):PC 324 [.p (.list c (l.map Gd)),.p (.int .i64 t)] (.int .i64 (Je l t)):=by
 obtain ⟨⟨hl1,hl2⟩,hpt⟩:=hl;refine Zc Tryz.func324 rfl Zbh ?_;simp (disch:=omega) only [Tryz.f324,go_sem,seval];refine ((aY l c Za).frozenE).useV fun m hm=>Wt ?_
 have hm0:m.length=0:=by rw [hm.emp.2 ⟨⟨hl1,hl2⟩,hpt⟩];rfl
 have e1: ¬t<0:=Za
 have e2: ¬ 1073741824<t:=Za
 simp (disch:=omega) only [hm0,e1,e2,go_sem,seval];refine Zk [0,1] (fun k:Nat=> [(5,.p (.int .i64 k))]) (fun _=> []) (fun k=>k<l.length/\ ∀j,j<k->QA l t j=false) (fun k=>l.length-k) 0 (by simp;omega) (Weak.mk ?_) ?_
 ·simp (disch:=omega) only [go_sem,seval,↓reduceIte]
 ·rintro k ⟨hk,hno⟩;refine Wt ?_;refine cD ?_ ?_<;>intro h<;>simp (disch:=omega) only [Sh.out h,go_sem,seval,↓reduceIte]
  ·have hk2:k+1<l.length:=Za
   obtain ⟨⟨p1,p2,p3,p4⟩,_⟩:=hpt k hk;obtain ⟨⟨q1,q2,q3,q4⟩,q5⟩:=hpt (k+1) hk2;obtain ⟨r1,r2⟩:=q5 Za;rw [Nat.add_sub_cancel] at r1 r2;refine gT ?_ ?_<;>intro h2<;>simp (disch:=omega) only [Sh.out h2,go_sem,seval,↓reduceIte]
   ·refine cD ?_ ?_<;>intro h3<;>simp (disch:=omega) only [Sh.out h3,go_sem,seval,↓reduceIte]
    ·have hsg:QA l t k=true:=by simp [QA,h2,h3]
     rw [Ho hk2 hno hsg];obtain ⟨s1,s2⟩:=Fe h2 h3 p1 q2 r2 Za Za;have d1:0<=((t-(nth l k).t)*((nth l (k+1)).a-(nth l k).a)+(nth l (k+1)).t-(nth l k).t-1) / ((nth l (k+1)).t-(nth l k).t):=Int.ediv_nonneg Za Za;have d2:((t-(nth l k).t)*((nth l (k+1)).a-(nth l k).a)+(nth l (k+1)).t-(nth l k).t-1) / ((nth l (k+1)).t-(nth l k).t)<=33558528:=Int.le_trans (Int.ediv_le_self _ Za) Za
     have d3: ¬(nth l (k+1)).t-(nth l k).t=0:=Za
     simp only [FW];refine XR ?_;simp (disch:=omega) only [go_sem,seval,↓reduceIte]
    ·have hsg:QA l t k=false:=by simp [QA,h3]
     exact ⟨k+1,⟨Za,Zm.2 ⟨hno,hsg⟩⟩,Za,wk⟩
   ·have hsg:QA l t k=false:=by simp [QA,h2]
    exact ⟨k+1,⟨Za,Zm.2 ⟨hno,hsg⟩⟩,Za,wk⟩
  ·have hkl:k+1=l.length:=Za
   rw [DA (fun j hj=>hno j Za)];obtain ⟨⟨p1,p2,p3,p4⟩,_⟩:=hpt 0 Za;obtain ⟨⟨q1,q2,q3,q4⟩,_⟩:=hpt (l.length-1) Za
   have i1:((l.length:Int)-1).toNat=l.length-1:=Za
   refine cD ?_ ?_<;>intro h2<;>simp (disch:=omega) only [Sh.out h2,go_sem,seval,↓reduceIte]
theorem ZD {α:Type} [Inhabited α] {l:List α} {i:Nat} (h:i<l.length):nth l i∈l:=by grind [Ze]
def kQ (a:Arc):Prop:=WK a.travel/\a.slow.length<=16/\ ∀p∈a.slow,0<=p.t/\p.t<=4096/\0<=p.a/\p.a<=4096
def JT (l:List Pt) (t:Int) (k:Nat):Int:=(l.take k).foldl (fun s p=>if p.t<=t then s+p.a else s) 0
def Hn (a:Arc) (t:Int):Int:=Je a.travel t+JT a.slow t a.slow.length
theorem A6 {l:List Pt} {t:Int} {k:Nat} (h:k<l.length):JT l t (k+1)=if (nth l k).t<=t then JT l t k+(nth l k).a else JT l t k:=by
 grind [JT,Xo,Ze]
theorem Q0 {l:List Pt} {t:Int} (hl: ∀p∈l,0<=p.a/\p.a<=4096): ∀k,k<=l.length->0<=JT l t k/\JT l t k<=4096*k
 | 0,_=>by simp [JT]
 | k+1,h=>by
  have ih:=Q0 (t:=t) hl k Za
  grind [ZD,A6]
theorem Ea {l:List Pt} {t:Int} (hl:WK l) (ht:0<=t/\t<=1073741824):0<=Je l t/\Je l t<=1107304448:=by
 obtain ⟨⟨hl1,hl2⟩,hpt⟩:=hl;unfold Je
 split
 ·rename_i i hi;have hm:=Vv hi;have hs:=EH hi;simp at hm;simp only [QA,ZO,Zl] at hs;obtain ⟨⟨p1,p2,p3,p4⟩,_⟩:=hpt i Za;obtain ⟨⟨q1,q2,q3,q4⟩,q5⟩:=hpt (i+1) Za;obtain ⟨r1,r2⟩:=q5 Za;rw [Nat.add_sub_cancel] at r1 r2;obtain ⟨s1,s2⟩:=Fe hs.1 hs.2 p1 q2 r2 Za Za;have d1:0<=((t-(nth l i).t)*((nth l (i+1)).a-(nth l i).a)+(nth l (i+1)).t-(nth l i).t-1) / ((nth l (i+1)).t-(nth l i).t):=Int.ediv_nonneg Za Za;have d2:((t-(nth l i).t)*((nth l (i+1)).a-(nth l i).a)+(nth l (i+1)).t-(nth l i).t-1) / ((nth l (i+1)).t-(nth l i).t)<=33558528:=Int.le_trans (Int.ediv_le_self _ Za) Za
  unfold FW;omega
 ·obtain ⟨⟨p1,p2,p3,p4⟩,_⟩:=hpt 0 Za;obtain ⟨⟨q1,q2,q3,q4⟩,_⟩:=hpt (l.length-1) Za;omega
theorem Nk (a:Arc) (t:Int) (ha:kQ a) (ht:0<=t/\t<=1073741824):PC 320 [.p (Ud a),.p (.int .i64 t)] (.int .i64 (Hn a t)):=by
 obtain ⟨h1,h2,h3⟩:=ha;have hr:=Ea h1 ht;have hs:=Q0 (t:=t) (fun p hp=>(h3 p hp).2.2);refine Zc Tryz.func320 rfl Zbd ?_;simp (disch:=omega) only [Tryz.f320,go_sem,seval];refine (Nj a.travel a.travel_c t h1 ht).use (Wt ?_);refine Zk [1,2] (fun k:Nat=> [(5,.p (.int .i64 (Je a.travel t+JT a.slow t k))),(6,.p (.int .i64 k))]) (fun _=> [ZdR a]) (fun k=>k<=a.slow.length) (fun k=>a.slow.length-k) 0 Zb (Weak.mk ?_) ?_
 ·simp (disch:=omega) only [ZdR,JT,Qv,go_sem,seval];simp
 ·intro k hk;have hsk:=hs k hk;simp (disch:=omega) only [ZdR,go_sem,seval];refine cD ?_ ?_<;>intro h<;>simp (disch:=omega) only [Sh.out h,go_sem,seval,↓reduceIte]
  ·have hk2:k<a.slow.length:=Za
   have hp:=h3 _ (ZD hk2);have hsn:=A6 (t:=t) hk2;refine ZN ?_ ?_<;>intro h4
   ·rw [if_pos h4] at hsn;exact ⟨k+1,Za,Za,Weak.mk (by simp (disch:=omega) only [hsn,Int.add_assoc,go_sem,seval])⟩
   ·rw [if_neg h4] at hsn;exact ⟨k+1,Za,Za,Weak.mk (by simp (disch:=omega) only [hsn,go_sem,seval])⟩
  grind [Hn]
theorem Rb {g:FuncId} {args:List V} {a b c:PV} {H:List AM.Obj} {K:V->List AM.Obj->Prop} (h:ACalls Tryz.prog g args [] fun x H'=>x= .tup [.p a,.p b,.p c]/\H'= []) (k:K (.tup [.p a,.p b,.p c]) H) (ha:Xd 0 args=true:=by rfl):ACalls Tryz.prog g args H K :=
 (h.behind ha H).mono fun x H' hq=>by
  obtain ⟨y,H1,⟨rfl,rfl⟩,rfl,rfl⟩:=hq
  grind [shV,shVs]
theorem X4 {g:FuncId} {args:List V} {a b:PV} {H:List AM.Obj} {K:V->List AM.Obj->Prop} (h:ACalls Tryz.prog g args [] fun x H'=>x= .tup [.p a,.p b]/\H'= []) (k:K (.tup [.p a,.p b]) H) (ha:Xd 0 args=true:=by rfl):ACalls Tryz.prog g args H K :=
 (h.behind ha H).mono fun x H' hq=>by
  obtain ⟨y,H1,⟨rfl,rfl⟩,rfl,rfl⟩:=hq
  grind [shV,shVs]
def Kp (n:Net) (p:Int):Bool:=decide (0<=p)&&decide (p<(n.places.length:Int))
theorem GJ (n:Net) (p:Int) (hn:n.places.length<=1048576):PC 318 [.p (Bo n),.p (.int .i64 p)] (.bool (Kp n p)):=by
 refine Zc Tryz.func318 rfl Zbb ?_;simp (disch:=omega) only [Tryz.f318,go_sem,seval];refine gT ?_ ?_<;>intro h<;>simp (disch:=omega) only [Sh.out h,go_sem,seval,↓reduceIte]
 ·simp [Kp,h]
 ·simp [Kp,h]
def W8 (pr f t:Int) (a:Arc):Bool:=decide (a.src=f)&&decide (a.dst=t)&&decide (a.prof=pr)
def VF : Arc:=⟨0,0,0,0,true,[],true,[]⟩
def Wx (n:Net) (pr f t:Int):Arc×Bool:=match n.arcs.find? (W8 pr f t) with | some a=>(a,true) | none=>(VF,false)
theorem Ln {n:Net} {pr f t:Int} {k:Nat} (hk:k<n.arcs.length) (hno: ∀j,j<k->W8 pr f t (nth n.arcs j)=false) (h:W8 pr f t (nth n.arcs k)=true):Wx n pr f t=(nth n.arcs k,true):=by
 have:n.arcs.find? (W8 pr f t)=some (nth n.arcs k):=by
  grind [List.find?_eq_some_iff_getElem,Ze]
 rw [Wx,this]
theorem Lo {n:Net} {pr f t:Int} (hno: ∀j,j<n.arcs.length->W8 pr f t (nth n.arcs j)=false):Wx n pr f t=(VF,false):=by
 have:n.arcs.find? (W8 pr f t)=none:=by
  rw [Ju];intro a ha;obtain ⟨j,hj,rfl⟩:=ZP.1 ha
  grind [Ze]
 rw [Wx,this]
theorem cG (n:Net) (pr f t:Int) (hn:n.arcs.length<=1048576):PT 319 [.p (Bo n),.p (.int .i64 pr),.p (.int .i64 f),.p (.int .i64 t)] [.p (Ud (Wx n pr f t).1),.p (.bool (Wx n pr f t).2)]:=by
 refine Zf [] Tryz.func319 rfl Zbc ?_;simp (disch:=omega) only [Tryz.f319,go_sem,seval];refine Zk [1,2,3,4,8] (fun k:Nat=> [(10,.p (.int .i64 k))]) (fun _=>ZZ n++ [ZdR VF]) (fun k=>k<=n.arcs.length/\ ∀j,j<k->W8 pr f t (nth n.arcs j)=false) (fun k=>n.arcs.length-k) 0 Zb (Weak.mk ?_) ?_
 ·simp (disch:=omega) only [ZZ,ZdR,VF,Zo,ZY,Xk,go_sem,seval]
 ·rintro k ⟨hk,hno⟩;simp (disch:=omega) only [ZZ,ZdR,VF,Zo,ZY,Xk,go_sem,seval];refine cD ?_ ?_<;>intro h<;>simp (disch:=omega) only [Sh.out h,go_sem,seval,↓reduceIte]
  ·have hk2:k<n.arcs.length:=Za
   have nx:W8 pr f t (nth n.arcs k)=false-> ∀j,j<k+1->W8 pr f t (nth n.arcs j)=false:=fun h=>Zm.2 ⟨hno,h⟩;refine J6 ?_ ?_<;>intro h1
   ·refine J6 ?_ ?_<;>intro h2
    ·refine ZN ?_ ?_<;>intro h3
     ·have e:=Ln hk2 hno (by grind [W8]);rw [e];exact we
     ·exact ⟨k+1,⟨Za,nx (by simp [W8,h3])⟩,Za,wk⟩
    ·exact ⟨k+1,⟨Za,nx (by simp [W8,h2])⟩,Za,wk⟩
   ·exact ⟨k+1,⟨Za,nx (by simp [W8,h1])⟩,Za,wk⟩
  ·have hkn:k=n.arcs.length:=Za
   subst hkn;rw [Lo hno];exact we (by simp (disch:=omega) only [VF,Zo,go_sem,seval])
def goN (n:Net) (pr f t τ:Int):Int×Int×Int :=
 if (Kp n f&&Kp n t)=false then (0,0,11) else if f=t then (τ,0,0) else if (Wx n pr f t).2=true then (Hn (Wx n pr f t).1 τ,(Wx n pr f t).1.miles,0) else (0,0,12)
def netR (n:Net):Prop:=n.places.length<=1048576/\n.arcs.length<=1048576/\ ∀a∈n.arcs,kQ a
theorem KR {n:Net} {pr f t:Int} (h:(Wx n pr f t).2=true):(Wx n pr f t).1∈n.arcs:=by
 grind [Wx]
theorem wU (n:Net) (pr f t τ:Int) (hn:netR n) (hτ:0<=τ/\τ<=1073741824):PT 307 [.p (Bo n),.p (.int .i64 pr),.p (.int .i64 f),.p (.int .i64 t),.p (.int .i64 τ)] [.p (.int .i64 (goN n pr f t τ).1),.p (.int .i64 (goN n pr f t τ).2.1),.p (.int .i64 (goN n pr f t τ).2.2)]:=by
 refine Zf [] Tryz.func307 rfl Za0 ?_;simp (disch:=omega) only [Tryz.f307,go_sem,seval];refine (GJ n f hn.1).use (Wt ?_);refine gF ?_ ?_<;>intro h1<;>simp (disch:=omega) only [Sh.out h1,go_sem,seval,↓reduceIte]
 ·have e:goN n pr f t τ=(0,0,11):=by grind [goN]
  rw [e];exact we
 ·simp only [Xp] at h1;refine (GJ n t hn.1).use (Wt ?_);refine cD ?_ ?_<;>intro h2<;>simp (disch:=omega) only [Sh.out h2,go_sem,seval]
  ·have e:goN n pr f t τ=(0,0,11):=by grind [goN]
   rw [e];exact we
  ·simp only [Xp] at h2;refine cD ?_ ?_<;>intro h3<;>simp (disch:=omega) only [Sh.out h3,go_sem,seval,↓reduceIte]
   ·have e:goN n pr f t τ=(τ,0,0):=by grind [goN]
    rw [e];exact we
   ·have cf:=cG n pr f t hn.2.1;have hm:= @KR n pr f t
    have e0:goN n pr f t τ=if (Wx n pr f t).2=true then (Hn (Wx n pr f t).1 τ,(Wx n pr f t).1.miles,0) else (0,0,12):=by grind [goN]
    rw [e0];generalize Wx n pr f t=A at cf hm ⊢;obtain ⟨a,b⟩:=A;simp only at cf hm ⊢;refine X4 cf (Wt ?_);refine cD ?_ ?_<;>intro h4<;>simp (disch:=omega) only [Sh.out h4,go_sem,seval]
    ·have hb:b=false:=by grind
     subst hb;exact we (by simp (disch:=omega) only [go_sem,seval,↓reduceIte])
    ·have hb:b=true:=by grind
     subst hb;refine XR (Wt ?_);refine Zp (Nk a τ (hn.2.2 a (hm rfl)) hτ) (Wt ?_);exact we
theorem qE (x:Inst) (pr f t τ:Int) (hn:netR x.net) (hτ:0<=τ/\τ<=1073741824):PT 284 [.p (ZG x),.p (.int .i64 pr),.p (.int .i64 f),.p (.int .i64 t),.p (.int .i64 τ)] [.p (.int .i64 (goN x.net pr f t τ).1),.p (.int .i64 (goN x.net pr f t τ).2.1),.p (.bool (decide ((goN x.net pr f t τ).2.2=0)))]:=by
 refine Zf [] Tryz.func284 rfl ZaF ?_;simp (disch:=omega) only [Tryz.f284,go_sem,seval];refine Rb (wU x.net pr f t τ hn hτ) (Wt ?_);exact we
structure StD where
 place:Int
 time:Int
 driven:Int
 miles:Int
def bZ (s:StD):PV:= .agg [.int .i64 s.place,.int .i64 s.time,.int .i64 s.driven,.int .i64 s.miles]
@[go_sem] theorem Zj5 (s:StD):bZ s= .agg [.int .i64 s.place,.int .i64 s.time,.int .i64 s.driven,.int .i64 s.miles]:=Zh rfl rfl
def E3 (t:Typ) (s:StD) (b:Bool):StD:=if b=true then { s with time:=s.time+t.rest,driven:=0 } else s
theorem Mf (t:Typ) (s:StD) (b:Bool) (hb: -1099511627776<=s.time/\s.time<=1099511627776/\ -1099511627776<=t.rest/\t.rest<=1099511627776):PC 249 [.p (Uf t),.p (bZ s),.p (.bool b)] (bZ (E3 t s b)):=by
 refine Zc Tryz.func249 rfl Zag ?_
 cases b with
 | true=>simp (disch:=omega) only [Tryz.f249,E3,go_sem,seval,↓reduceIte]
 | false=>simp (disch:=omega) only [Tryz.f249,E3,Yo,go_sem,seval,↓reduceIte]
def Q1 (x:Inst) (t:Typ) (s:StD) (to cl late:Int):StD×Int :=
 if ¬(goN x.net t.prof s.place to s.time).2.2=0 then (s,12)
 else if cl<(goN x.net t.prof s.place to s.time).1 then (s,late)
 else if t.drive<s.driven+(goN x.net t.prof s.place to s.time).1-s.time then (s,16)
 else (⟨to,(goN x.net t.prof s.place to s.time).1,s.driven+(goN x.net t.prof s.place to s.time).1-s.time,s.miles+(goN x.net t.prof s.place to s.time).2.1⟩,0)
def TN (n:Int):Prop:= -1099511627776<=n/\n<=1099511627776
theorem ME (x:Inst) (t:Typ) (s:StD) (to cl late:Int) (hn:netR x.net) (hs:0<=s.time/\s.time<=1073741824) (hd:TN s.driven) (hm:TN s.miles) (hg:TN (goN x.net t.prof s.place to s.time).1/\TN (goN x.net t.prof s.place to s.time).2.1) :
  PT 250 [.p (ZG x),.p (Uf t),.p (bZ s),.p (.int .i64 to),.p (.int .i64 cl),.p (.int .i64 late)] [.p (bZ (Q1 x t s to cl late).1),.p (.int .i64 (Q1 x t s to cl late).2)]:=by
 have cw:=qE x t.prof s.place to s.time hn hs;unfold Q1;generalize goN x.net t.prof s.place to s.time=g at cw hg ⊢;obtain ⟨a,m,e⟩:=g;unfold TN at hd hm hg;simp only at cw hg ⊢;refine Zf [] Tryz.func250 rfl Zah ?_;simp (disch:=omega) only [Tryz.f250,go_sem,seval];refine Rb cw (Wt ?_);refine cD ?_ ?_<;>intro h1<;>simp (disch:=omega) only [Sh.out h1,go_sem,seval,↓reduceIte]
 ·exact we
 ·rw [if_neg h1];refine cD ?_ ?_<;>intro h2<;>simp (disch:=omega) only [Sh.out h2,go_sem,seval,↓reduceIte]
  ·exact we
  ·rw [if_neg h2];refine cD ?_ ?_<;>intro h3<;>simp (disch:=omega) only [Sh.out h3,go_sem,seval,↓reduceIte]
   ·exact we
   ·exact we
structure Lab where
 ready:Int
 since:Int
 she:She
 deriving Inhabited
def zShe : She:=⟨false,0,true,[],0,0⟩
def Wv : Lab:=⟨0,0,zShe⟩
def ZM (t:Typ) (L:Lab) (b:Bool):Int:=if b=true then L.ready+t.rest else L.ready
def Ws (L:Lab) (b:Bool):Int:=if b=true then 0 else L.since
def Py (l:List Tim) (k:Nat) (d:Int) (b:Bool):List Tim:=l.set k { nth l k with dep:=d,rest:=b }
def XZ (k:Nat) (d:Int) (b:Bool) (s:She):She:=if k=0 then { s with rest:=b,dep:=d } else { s with times:=Py s.times (k-1) d b }
def Uj (t:Typ) (sp:List Stp) (k:Nat):Int:=if k=0 then t.src else (nth sp (k-1)).place
def To (t:Typ) (sp:List Stp) (k:Nat):Int:=if k=sp.length then t.dst else (nth sp k).place
def Y7 (x:Inst) (t:Typ) (sp:List Stp) (k:Nat) (d:Int):Int×Int×Int:=goN x.net t.prof (Uj t sp k) (To t sp k) d
def Wz (t:Typ) (sp:List Stp) (k:Nat) (g:Int×Int×Int) (d s:Int) (h:She):Lab×Int :=
 if ¬g.2.2=0 then (Wv,12)
 else if k=sp.length then
  if t.cls<g.1 then (Wv,15) else if t.drive<s+g.1-d then (Wv,16)
  else (⟨g.1,s+g.1-d,{ h with fin:=g.1,miles:=h.miles+g.2.1 }⟩,0)
 else if (nth sp k).cls<max g.1 (nth sp k).opn then (Wv,14)
 else if t.drive<s+g.1-d then (Wv,16)
 else (⟨max g.1 (nth sp k).opn+(nth sp k).serv,s+g.1-d,{ h with times_c:=false,times:=h.times++ [⟨g.1,max g.1 (nth sp k).opn,0,false⟩],miles:=h.miles+g.2.1 }⟩,0)
def nxtF (x:Inst) (t:Typ) (sp:List Stp) (k:Nat) (L:Lab) (b:Bool):Lab×Int :=
 Wz t sp k (Y7 x t sp k (ZM t L b)) (ZM t L b) (Ws L b) (XZ k (ZM t L b) b L.she)
def XO (x:Inst) (t:Typ) (sp:List Stp) (k:Nat) (L:Lab) (b:Bool):Option Lab:=if (nxtF x t sp k L b).2=0 then some (nxtF x t sp k L b).1 else none
def Xy (x:Inst) (t:Typ) (sp:List Stp):Nat->Lab->List Bool->Lab×Int
 | _,L,[]=>(L,0)
 | k,L,b::bs=>if (nxtF x t sp k L b).2=0 then Xy x t sp (k+1) (nxtF x t sp k L b).1 bs else (Wv,(nxtF x t sp k L b).2)
def labF (t:Typ) (st:Int):Lab:=⟨max t.opn st,0,zShe⟩
theorem VS {x:Inst} {t:Typ} {sp:List Stp} : ∀(bs:List Bool) (k:Nat) (L:Lab),Vp (XO x t sp) k L bs=if (Xy x t sp k L bs).2=0 then some (Xy x t sp k L bs).1 else none
 | [],k,L=>by rfl
 | b::bs,k,L=>by
  rw [Vp,Xy,XO]
  by_cases h:(nxtF x t sp k L b).2=0
  ·simp only [h,if_true];exact VS bs (k+1) _
  ·simp [h]
structure TrpOk (x:Inst) (t:Typ) (sp:List Stp):Prop where
 net:netR x.net
 mil: ∀a∈x.net.arcs,0<=a.miles/\a.miles<=10000
 opn:0<=t.opn/\t.opn<=t.cls/\t.cls<=4096
 drv:1<=t.drive/\t.drive<=4096
 rst:0<=t.rest/\t.rest<=4096
 stp: ∀s∈sp,0<=s.opn/\s.opn<=s.cls/\s.cls<=4096/\0<=s.serv/\s.serv<=4096
 len:sp.length<=20
structure LabR (k:Nat) (L:Lab):Prop where
 rdy:0<=L.ready/\L.ready<=8192
 snc: -(12288*(k:Int))<=L.since/\L.since<=4096
 mil:0<=L.she.miles/\L.she.miles<=10000*(k:Int)
theorem HO {n:Net} {pr f t τ:Int} (hn:netR n) (hm: ∀a∈n.arcs,0<=a.miles/\a.miles<=10000) (hτ:0<=τ/\τ<=1073741824):(0<=(goN n pr f t τ).1/\(goN n pr f t τ).1<=1107369984)/\(0<=(goN n pr f t τ).2.1/\(goN n pr f t τ).2.1<=10000):=by
 unfold goN
 split
 ·simp
 ·split
  ·grind
  ·split
   ·rename_i h;have hA:=KR h;have h1:=Ea (hn.2.2 _ hA).1 hτ;have h2:=Q0 (t:=τ) (fun p hp=>((hn.2.2 _ hA).2.2 p hp).2.2) _ (Xf _);have h3:=(hn.2.2 _ hA).2.1
    grind [Hn]
   ·simp
theorem J8 {x t sp k L} (h:TrpOk x t sp) (hl:LabR k L) (b:Bool):0<=ZM t L b/\ZM t L b<=12288:=by
 have:=h.rst;have:=hl.rdy
 grind [ZM]
theorem Fi {k L} (hl:LabR k L) (b:Bool): -(12288*(k:Int))<=Ws L b/\Ws L b<=4096:=by
 have:=hl.snc
 grind [Ws]
theorem HN {x t sp k L} (h:TrpOk x t sp) (hl:LabR k L) (b:Bool):(0<=(Y7 x t sp k (ZM t L b)).1/\(Y7 x t sp k (ZM t L b)).1<=1107369984)/\(0<=(Y7 x t sp k (ZM t L b)).2.1/\(Y7 x t sp k (ZM t L b)).2.1<=10000):=by
 have:=J8 h hl b;exact HO h.net h.mil Za
theorem Kh {k d b s} :(XZ k d b s).miles=s.miles:=by grind [XZ]
theorem GA {k d b s} :(XZ k d b s).fin=s.fin:=by grind [XZ]
theorem Ac {k d b s} :(XZ k d b s).times.length=s.times.length:=by grind [XZ,Py]
theorem H7 {x t sp k L b} (h:TrpOk x t sp) (hk:k<=sp.length) (hl:LabR k L) (he:(nxtF x t sp k L b).2=0):LabR (k+1) (nxtF x t sp k L b).1:=by
 have h1:=J8 h hl b;have h2:=Fi hl b;obtain ⟨h3,h4⟩:=HN h hl b;have h5:=hl.mil;have h6:=h.opn;have h7:=h.drv;have hm:(XZ k (ZM t L b) b L.she).miles=L.she.miles:=Kh;unfold nxtF at he ⊢
 generalize Y7 x t sp k (ZM t L b)=g at *
 generalize ZM t L b=d at *
 generalize Ws L b=s at *
 generalize XZ k d b L.she=m at *
 unfold Wz at he ⊢
 split at he
 ·simp at he
 ·rename_i c1;rw [if_neg c1]
  split at he
  ·rename_i c2;rw [if_pos c2]
   split at he
   ·simp at he
   ·rename_i c3;rw [if_neg c3]
    split at he
    ·simp at he
    ·rename_i c4;rw [if_neg c4];exact ⟨by grind,by grind,by grind⟩
  ·rename_i c2;rw [if_neg c2];have h8:=h.stp _ (ZD (show k<sp.length by omega))
   split at he
   ·simp at he
   ·rename_i c3;rw [if_neg c3]
    split at he
    ·simp at he
    ·rename_i c4;rw [if_neg c4];exact ⟨by grind,by grind,by grind⟩
theorem EQ {x t sp k L b} (hl:L.she.times.length=k) (he:(nxtF x t sp k L b).2=0) (hk:k<sp.length):(nxtF x t sp k L b).1.she.times.length=k+1:=by
 have hm:(XZ k (ZM t L b) b L.she).times.length=L.she.times.length:=Ac;unfold nxtF at he ⊢
 generalize Y7 x t sp k (ZM t L b)=g at *
 generalize ZM t L b=d at *
 generalize Ws L b=s at *
 generalize XZ k d b L.she=m at *
 have hk2: ¬k=sp.length:=Za
 unfold Wz at he ⊢
 grind
def Z7 (m x:Lab):Bool:=decide (m.ready=x.ready)&&decide (m.since<=x.since)
theorem Nn {x t sp k} {m y z:Lab} {b:Bool} (hb:Z7 m y=true) (hn:XO x t sp k y b=some z): ∃u,XO x t sp k m b=some u/\Z7 u z=true:=by
 simp only [Z7,ZO,Zl] at hb;obtain ⟨hb1,hb2⟩:=hb
 have hd:ZM t m b=ZM t y b:=by simp [ZM,hb1]
 have hs:Ws m b<=Ws y b:=by grind [Ws]
 unfold XO at hn ⊢;unfold nxtF at hn ⊢;rw [hd]
 generalize Y7 x t sp k (ZM t y b)=g at *
 generalize ZM t y b=d at *
 generalize Ws y b=s at *
 generalize Ws m b=s2 at *
 generalize XZ k d b y.she=h1 at *
 generalize XZ k d b m.she=h2 at *
 unfold Wz at hn ⊢
 by_cases c1:g.2.2=0
 ·by_cases c2:k=sp.length
  ·simp only [c1,c2,not_true,if_true,Yr] at hn ⊢
   by_cases c3:t.cls<g.1
   ·grind
   ·by_cases c4:t.drive<s+g.1-d
    ·grind
    ·have c5: ¬t.drive<s2+g.1-d:=Za
     simp only [c3,c4,Yr,if_true,XW] at hn;subst hn;refine ⟨_,by simp only [c3,c5,Yr,if_true];rfl,?_⟩;simp [Z7];omega
  ·simp only [c1,c2,not_true,Yr] at hn ⊢
   by_cases c3:(nth sp k).cls<max g.1 (nth sp k).opn
   ·grind
   ·by_cases c4:t.drive<s+g.1-d
    ·grind
    ·have c5: ¬t.drive<s2+g.1-d:=Za
     simp only [c3,c4,Yr,if_true,XW] at hn;subst hn;refine ⟨_,by simp only [c3,c5,Yr,if_true];rfl,?_⟩;simp [Z7];omega
 grind
def We (L:Lab):Int:=L.she.fin
theorem L4 {x t sp} {y z:Lab} {b:Bool} (hn:XO x t sp sp.length y b=some z):z.she.fin=z.ready:=by
 unfold XO nxtF Wz at hn
 grind
theorem Gt {x t sp} (ch:Nat->List Bool) (L:Lab):Vq We none (JP Z7 (XO x t sp) ch (sp.length+1) 0 [L])=Vq We none (Vi (XO x t sp) ch (sp.length+1) 0 L):=by
 have h:=Pp We Z7 (XO x t sp) ch (n:=sp.length+1) (Inv:=fun k y=>k=sp.length+1->y.she.fin=y.ready)
  (fun k y b z _ hn hk=>by
   grind [L4]) (fun k m y b z _ _ hb hn=>Nn hb hn)
  (fun m y h1 h2 hb=>by
   simp only [Z7,ZO,Zl] at hb
   rw [We,We,h1 rfl,h2 rfl];omega) (sp.length+1) 0 [L] Za (fun y _ hk=>Za)
 rw [h];simp
def V6 (r:List Bool) (k:Nat):List Bool:=match r[k]? with | some b=> [b] | none=> [false,true]
theorem O8 (r:List Bool) (n:Nat) (hn:r.length<=n): ∀(j k:Nat),k+j=r.length->HK (V6 r) (n-k) k=(Y3 (List.replicate (n-r.length) false)).map (r.drop k++ ·)
 | 0,k,h=>by
  have hk:k=r.length:=Za
  subst hk;rw [Ll (n:=n) _ _ _ (fun q hq=>by grind [V6])];simp
 | j+1,k,h=>by
  have e:n-k=(n-(k+1))+1:=Za
  have hlt:k<r.length:=Za
  rw [e,HK,O8 r n hn j (k+1) Za]
  have:V6 r k= [r[k]]:=by simp [V6,hlt]
  rw [this,BC,List.flatMap_nil,Qu,List.map_map,UG hlt]
  rfl
theorem Ge (r:List Bool) (n:Nat) (hn:r.length<=n):HK (V6 r) n 0=(Y3 (List.replicate (n-r.length) false)).map (r++ ·):=by
 have:=O8 r n hn r.length 0 Za
 grind
def YY (r:List Bool) (n:Nat):List (List Bool):=(Y3 (List.replicate (n-r.length) false)).map (r++ ·)
def Y8 (r:List Bool) (n:Nat):List Bool:=r++List.replicate (n-r.length) false
def Ux (x:Inst) (t:Typ) (sp:List Stp) (st:Int) (r:List Bool):She×Int :=
 match Vq We none ((YY r (sp.length+1)).filterMap (Vp (XO x t sp) 0 (labF t st))) with
 | some L=>(L.she,0)
 | none=>(zShe,(Xy x t sp 0 (labF t st) (Y8 r (sp.length+1))).2)
theorem Ht {x t sp} {st:Int} {r:List Bool} (hr:r.length<=sp.length+1):Ux x t sp st r=match Vq We none (JP Z7 (XO x t sp) (V6 r) (sp.length+1) 0 [labF t st]) with
 | some L=>(L.she,0)
 | none=>(zShe,(Xy x t sp 0 (labF t st) (Y8 r (sp.length+1))).2):=by
 rw [Gt,Vi,Ge r _ hr];rfl
theorem Mn {x t sp} : ∀(bs:List Bool) (k:Nat) (L:Lab),L.she.times.length=k->k+bs.length=sp.length+1->0<bs.length->(Xy x t sp k L bs).2=0->(Xy x t sp k L bs).1.she.times.length=sp.length
 | [],k,L,h1,h2,h3,h=>by simp at h3
 | b::bs,k,L,h1,h2,_,h=>by
  rw [Xy] at h ⊢
  by_cases h4:(nxtF x t sp k L b).2=0
  ·simp only [h4,if_true] at h ⊢
   cases bs with
   | nil =>
    simp at h2;subst h2;rw [Xy];unfold nxtF at h4 ⊢;unfold Wz at h4 ⊢
    split at h4
    ·simp at h4
    ·rename_i c1;rw [if_neg c1];simp only [if_true] at h4 ⊢
     split at h4
     ·simp at h4
     ·rename_i c2;rw [if_neg c2]
      split at h4
      ·simp at h4
      simp_all [if_neg,Ac]
   | cons b2 bs =>
    simp at h2;exact Mn (b2::bs) (k+1) _ (EQ h1 h4 Za) (by simp;omega) Zb h
  grind
theorem bestF_len {x t sp} {st:Int} {r:List Bool} (hr:r.length<=sp.length+1) (h:(Ux x t sp st r).2=0):(Ux x t sp st r).1.times.length=sp.length:=by
 unfold Ux at h ⊢
 cases hf:Vq We none ((YY r (sp.length+1)).filterMap (Vp (XO x t sp) 0 (labF t st))) with
 | none =>
  rw [hf] at h;simp only at h ⊢;exfalso
  have hm:Y8 r (sp.length+1)∈YY r (sp.length+1):=by
   grind [YY,Y8,fromB_next]
  have h2:Vp (XO x t sp) 0 (labF t st) (Y8 r (sp.length+1))=some (Xy x t sp 0 (labF t st) (Y8 r (sp.length+1))).1:=by rw [VS,if_pos h]
  have h3:(Xy x t sp 0 (labF t st) (Y8 r (sp.length+1))).1∈(YY r (sp.length+1)).filterMap (Vp (XO x t sp) 0 (labF t st)):=BH.2 ⟨_,hm,h2⟩;generalize (YY r (sp.length+1)).filterMap (Vp (XO x t sp) 0 (labF t st))=l at hf h3
  cases l with
  | nil=>simp at h3
  | cons a l =>
   rw [Vq] at hf;obtain ⟨z,e,_⟩:=QO We l a
   grind
 | some L =>
  simp only;have hm:=fmL_mem _ _ hf;obtain ⟨bs,hbs,hrun⟩:=BH.1 hm;rw [VS] at hrun
  split at hrun
  ·rename_i h5;simp at hrun;subst hrun;obtain ⟨q,hq,rfl⟩:=Xg.1 hbs;have hql:=fromB_len _ _ hq;simp at hql;exact Mn _ 0 _ rfl (by grind) (by grind) h5
  ·cases hrun
where
 fmL_mem: ∀(l:List Lab) (L:Lab),Vq We none l=some L->L∈l
 | [],L,h=>by simp [Vq] at h
 | a::l,L,h=>by
  rw [Vq] at h;exact fmL_mem2 l a L h
 fmL_mem2: ∀(l:List Lab) (a L:Lab),Vq We (some a) l=some L->L∈a::l
 | [],a,L,h=>by grind [Vq]
 | y::l,a,L,h=>by
  rw [Vq] at h
  split at h
  ·have:=fmL_mem2 l y L h;grind
  ·have:=fmL_mem2 l a L h;grind
 fromB_len: ∀(l q:List Bool),q∈Y3 l->q.length=l.length
 | [],q,h=>by grind [Y3]
 | b::bs,q,h=>by
  rw [Y3] at h
  split at h
  ·obtain ⟨q',hq,rfl⟩:=Xg.1 h;simp [fromB_len bs q' hq]
  ·rcases XI.1 h with h | h
   ·obtain ⟨q',hq,rfl⟩:=Xg.1 h;simp [fromB_len bs q' hq]
   ·obtain ⟨q',hq,rfl⟩:=Xg.1 h;simp [fromB_len (List.replicate bs.length false) q' hq]
 termination_by l=>l.length
 decreasing_by all_goals simp
def XL (x:Inst) (v:Vis):Stp:=if v.drp=true then (nth x.orders v.order.toNat).drp else (nth x.orders v.order.toNat).pick
def Z6 (x:Inst) (l:List Vis):List Stp:=l.map (XL x)
def WD (t:Typ) (s:Int):Bool:=decide (0<=t.skills)&&decide (0<=s)&&(List.range 63).all fun i=> !s.toNat.testBit i||t.skills.toNat.testBit i
def U1 (a c:List Int):Bool:=decide (a.length=c.length)&&(List.range a.length).all fun i=>decide (nth a i<=nth c i)
def U9 (x:Inst) (c:List Int) (l:List Vis):Bool:=(List.range (l.length+1)).all fun n=>U1 (Wa x l n) c
def ZW (x:Inst) (r:Rte):Typ:=nth x.types r.typ.toNat
def VX (l:List Vis) (i:Nat):Bool:= !((l.take i).any fun v=>decide (v.order=(nth l i).order))
def Xh (k t:Int):Bool:=decide (k≠ -1)&&decide (k≠t)
def chgF (x:Inst) (l:List Vis) (t:Int):Nat->Int×Int
 | 0=>(0,0)
 | n+1=>if VX l n=true then ((chgF x l t n).1+(if Xh (nth x.orders (nth l n).order.toNat).now t=true then 1 else 0),(chgF x l t n).2+(if Xh (nth x.orders (nth l n).order.toNat).last t=true then 1 else 0)) else chgF x l t n
def Ip (x:Inst) (r:Rte) (s:She):Sco :=
 ⟨(ZW x r).fixed+(ZW x r).perMile*s.miles+(ZW x r).perTick*(s.fin-(ZW x r).opn),(chgF x r.visits r.typ r.visits.length).1,(chgF x r.visits r.typ r.visits.length).2,(s.fin-(ZW x r).opn).tdiv 64*(s.fin-(ZW x r).opn).tdiv 64⟩
def Yj (x:Inst) (r:Rte):Int :=
 if ¬(0<=r.typ/\r.typ<(x.types.length:Int)) then 2
 else if ¬Xl x r.visits=0 then Xl x r.visits
 else if (r.visits.any fun v=> !WD (ZW x r) (nth x.orders v.order.toNat).skills)=true then 18
 else if U9 x (ZW x r).cap r.visits=false then 17
 else if ¬(0<=r.start/\r.start<=4096/\r.rests.length<=r.visits.length+1) then 2
 else 0
def Xu (x:Inst) (r:Rte):She×Int:=Ux x (ZW x r) (Z6 x r.visits) r.start r.rests
def Z2 (x:Inst) (r:Rte):Int:=if Yj x r=0 then (Xu x r).2 else Yj x r
def Ww (x:Inst) (r:Rte):She:=if Z2 x r=0 then (Xu x r).1 else zShe
def XK (x:Inst) (r:Rte):Sco:=if Z2 x r=0 then Ip x r (Xu x r).1 else zSco
def Zcm : Stp:=⟨0,0,0,0⟩
def inB (x:Inst) (v:Vis):Bool:=decide (0<=v.order)&&decide (v.order<(x.orders.length:Int))
def KI (x:Inst) (v:Vis):Bool:=inB x v&&decide (0<=(XL x v).place)
def Cd (x:Inst) (v:Vis):Stp:=if inB x v=true then XL x v else Zcm
theorem MF (x:Inst) (v:Vis) (ho:x.orders.length<=1048576):PT 186 [.p (ZG x),.p (Xc v)] [.p (Ep (Cd x v)),.p (.bool (KI x v))]:=by
 refine Zf [] Tryz.func186 rfl yY ?_;simp (disch:=omega) only [Tryz.f186,go_sem,seval];refine gF ?_ ?_<;>intro h1<;>simp (disch:=omega) only [Sh.out h1,go_sem,seval,↓reduceIte]
 ·have e:inB x v=false:=by
   grind [inB]
  simp only [Cd,KI,e,U4,Yo,Yr,Zcm];exact we
 ·refine cD ?_ ?_<;>intro h2<;>simp (disch:=omega) only [Sh.out h2,go_sem,seval,↓reduceIte]
  ·have e:inB x v=false:=by
    grind [inB]
   simp only [Cd,KI,e,U4,Yo,Yr,Zcm];exact we
  ·have e:inB x v=true:=by simp [inB];omega
   have hi:v.order.toNat<x.orders.length:=Za
   refine cD ?_ ?_<;>intro hd<;>simp (disch:=omega) only [Sh.out hd,go_sem,seval,↓reduceIte]
   ·have hG:Cd x v=(nth x.orders v.order.toNat).drp:=by simp [Cd,e,XL,hd]
    have hV:KI x v=decide (0<=(nth x.orders v.order.toNat).drp.place):=by simp [KI,e,XL,hd]
    rw [hG,hV];refine IY (.cons 0 (.cons 1 (.cons 2 (.cons 3 (.cons 4 (.cons 5 .nil .nil) .nil) (.cons 4 (.cons 3 (.cons 5 .nil .nil) .nil) .nil)) (.cons 4 (.cons 2 (.cons 3 (.cons 5 .nil .nil) .nil) .nil) .nil)) (.cons 4 (.cons 1 (.cons 2 (.cons 3 (.cons 5 .nil .nil) .nil) .nil) .nil) .nil)) (.cons 1 (.cons 0 (.cons 2 (.cons 3 (.cons 4 (.cons 5 .nil .nil) .nil) (.cons 4 (.cons 3 (.cons 5 .nil .nil) .nil) .nil)) (.cons 4 (.cons 2 (.cons 3 (.cons 5 .nil .nil) .nil) .nil) .nil)) (.cons 2 (.cons 0 (.cons 3 (.cons 4 (.cons 5 .nil .nil) .nil) (.cons 4 (.cons 3 (.cons 5 .nil .nil) .nil) .nil)) (.cons 3 (.cons 0 (.cons 4 (.cons 5 .nil .nil) .nil) .nil) .nil)) .nil)) .nil)) mixed Zd ?_
    refine Wt ?_
    repeat' first
     | refine F0 ?_ ?_
     | exact we
     | simp (disch:=omega) only [go_sem,seval,↓reduceIte]
   ·have hG:Cd x v=(nth x.orders v.order.toNat).pick:=by simp [Cd,e,XL,hd]
    have hV:KI x v=decide (0<=(nth x.orders v.order.toNat).pick.place):=by simp [KI,e,XL,hd]
    rw [hG,hV];refine IY (.cons 0 (.cons 1 (.cons 2 (.cons 3 (.cons 4 (.cons 5 .nil .nil) .nil) (.cons 4 (.cons 3 (.cons 5 .nil .nil) .nil) .nil)) (.cons 4 (.cons 2 (.cons 3 (.cons 5 .nil .nil) .nil) .nil) .nil)) (.cons 4 (.cons 1 (.cons 2 (.cons 3 (.cons 5 .nil .nil) .nil) .nil) .nil) .nil)) (.cons 1 (.cons 0 (.cons 2 (.cons 3 (.cons 4 (.cons 5 .nil .nil) .nil) (.cons 4 (.cons 3 (.cons 5 .nil .nil) .nil) .nil)) (.cons 4 (.cons 2 (.cons 3 (.cons 5 .nil .nil) .nil) .nil) .nil)) (.cons 2 (.cons 0 (.cons 3 (.cons 4 (.cons 5 .nil .nil) .nil) (.cons 4 (.cons 3 (.cons 5 .nil .nil) .nil) .nil)) (.cons 3 (.cons 0 (.cons 4 (.cons 5 .nil .nil) .nil) .nil) .nil)) .nil)) .nil)) mixed Zd ?_
    refine Wt ?_
    repeat' first
     | refine F0 ?_ ?_
     | exact we
     | simp (disch:=omega) only [go_sem,seval,↓reduceIte]
def VR (x:Inst) (r:Rte):Bool:=(decide (0<=r.typ)&&decide (r.typ<(x.types.length:Int))&&decide (0<=r.start)&&decide (r.start<=4096)&&decide (r.visits.length<=20))&&r.visits.all (KI x)
theorem EY (x:Inst) (r:Rte) (ho:x.orders.length<=1048576) (ht:x.types.length<=1048576) (hl:r.visits.length<=1048576):PC 141 [.p (ZG x),.p (Wc r)] (.bool (VR x r)):=by
 refine Zc Tryz.func141 rfl xW ?_;simp (disch:=omega) only [Tryz.f141,go_sem,seval];refine gF ?_ ?_<;>intro h1<;>simp (disch:=omega) only [Sh.out h1,go_sem,seval,↓reduceIte]
 ·simp [VR];omega
 ·refine gF ?_ ?_<;>intro h2<;>simp (disch:=omega) only [Sh.out h2,go_sem,seval,↓reduceIte]
  ·simp [VR];omega
  ·refine gF ?_ ?_<;>intro h3<;>simp (disch:=omega) only [Sh.out h3,go_sem,seval,↓reduceIte]
   ·simp [VR];omega
   ·refine gF ?_ ?_<;>intro h4<;>simp (disch:=omega) only [Sh.out h4,go_sem,seval,↓reduceIte]
    ·simp [VR];omega
    ·refine cD ?_ ?_<;>intro h5<;>simp (disch:=omega) only [Sh.out h5,go_sem,seval]
     ·simp [VR];omega
     ·refine Zk [2,3] (fun k:Nat=> [(5,.p (.int .i64 k))]) (fun _=> [Zj x,Xb r]) (fun k=>k<=r.visits.length/\ ∀j,j<k->KI x (nth r.visits j)=true) (fun k=>r.visits.length-k) 0 Zb (Weak.mk ?_) ?_
      ·simp (disch:=omega) only [Zj,Xb,go_sem,seval]
      ·rintro k ⟨hk,hno⟩;refine Dk ?_;refine cD ?_ ?_<;>intro h<;>simp (disch:=omega) only [Sh.out h,go_sem,seval,↓reduceIte]
       ·have hk2:k<r.visits.length:=Za
        refine Xa [10,11] 12 mixed Zd Zd Zd Zb (Wt ?_);refine Wr (MF x (nth r.visits k) ho) (Wt ?_);refine ZF 10 _ _ Zd (by refine Wt ?_;exact ⟨rfl,rfl⟩) ?_;refine Wt ?_;refine ZF 11 _ _ Zd (by refine Wt ?_;exact ⟨rfl,rfl⟩) (X5 ?_);refine Wt ?_;refine ZN ?_ ?_<;>intro h6
        ·grind [Zq,VR]
        ·exact ⟨k+1,⟨Za,Zm.2 ⟨hno,by grind⟩⟩,Za,wk⟩
       ·have hkl:k=r.visits.length:=Za
        subst hkl
        have:r.visits.all (KI x)=true:=by
         rw [Zv];intro v hv;obtain ⟨j,hj,rfl⟩:=ZP.1 hv
         grind [Ze]
        grind [VR]
@[go_sem high] theorem ZjQ {k k':IntKind} {a b:Int} :Hh false [.p (.int k a),.p (.int k' b)]=some (.int k (max a b)):=by
 grind [Hh]
theorem NQ {l:List Tim} {m:Tim} {d:Int} {b:Bool} :Py (l++ [m]) l.length d b=l++ [{ m with dep:=d,rest:=b }]:=by
 grind [Ze,Py]
theorem Tj {x:Inst} {t:Typ} {sp:List Stp} {k:Nat} {d s m:Int} {h:She} (hk:k<sp.length) (ho:(nth sp k).opn<=(nth sp k).cls) (hm:h.miles=m) :
  (Q1 x t ⟨Uj t sp k,d,s,m⟩ (nth sp k).place (nth sp k).cls 14).2=(Wz t sp k (Y7 x t sp k d) d s h).2 /\
  ((Wz t sp k (Y7 x t sp k d) d s h).2=0->(Q1 x t ⟨Uj t sp k,d,s,m⟩ (nth sp k).place (nth sp k).cls 14).1=⟨(nth sp k).place,(Y7 x t sp k d).1,s+(Y7 x t sp k d).1-d,m+(Y7 x t sp k d).2.1⟩ /\
   (Wz t sp k (Y7 x t sp k d) d s h).1=⟨max (Y7 x t sp k d).1 (nth sp k).opn+(nth sp k).serv,s+(Y7 x t sp k d).1-d,{ h with times_c:=false,times:=h.times++ [⟨(Y7 x t sp k d).1,max (Y7 x t sp k d).1 (nth sp k).opn,0,false⟩],miles:=m+(Y7 x t sp k d).2.1 }⟩):=by
 have hne: ¬k=sp.length:=Za
 have e:goN x.net t.prof (Uj t sp k) (nth sp k).place d=Y7 x t sp k d:=by simp [Y7,To,hne]
 unfold Q1 Wz
 grind
theorem Tl {x:Inst} {t:Typ} {sp:List Stp} {d s m:Int} {h:She} (hm:h.miles=m) :
  (Q1 x t ⟨Uj t sp sp.length,d,s,m⟩ t.dst t.cls 15).2=(Wz t sp sp.length (Y7 x t sp sp.length d) d s h).2 /\
  ((Wz t sp sp.length (Y7 x t sp sp.length d) d s h).2=0->(Q1 x t ⟨Uj t sp sp.length,d,s,m⟩ t.dst t.cls 15).1=⟨t.dst,(Y7 x t sp sp.length d).1,s+(Y7 x t sp sp.length d).1-d,m+(Y7 x t sp sp.length d).2.1⟩ /\
   (Wz t sp sp.length (Y7 x t sp sp.length d) d s h).1=⟨(Y7 x t sp sp.length d).1,s+(Y7 x t sp sp.length d).1-d,{ h with fin:=(Y7 x t sp sp.length d).1,miles:=m+(Y7 x t sp sp.length d).2.1 }⟩):=by
 have e:goN x.net t.prof (Uj t sp sp.length) t.dst d=Y7 x t sp sp.length d:=by simp [Y7,To]
 unfold Q1 Wz
 grind
def Zb5 (s:StD):AM.Obj:= .cells [.p (.int .i64 s.place),.p (.int .i64 s.time),.p (.int .i64 s.driven),.p (.int .i64 s.miles)]
def QM (t:Typ) (sp:List Stp) (k:Nat) (L:Lab) (b:Bool):StD:=⟨Uj t sp k,ZM t L b,Ws L b,L.she.miles⟩
theorem Zjo {g:FuncId} {args:List V} {a c:PV} {H:List AM.Obj} {K:V->List AM.Obj->Prop} (h:ACalls Tryz.prog g args [] fun x H'=> ∃b:PV,x= .tup [.p a,.p b,.p c]/\H'= []) (k: ∀b:PV,K (.tup [.p a,.p b,.p c]) H) (ha:Xd 0 args=true:=by rfl):ACalls Tryz.prog g args H K :=
 (h.behind ha H).mono fun x H' hq=>by
  obtain ⟨y,H1,⟨b,rfl,rfl⟩,rfl,rfl⟩:=hq
  grind [shV,shVs]
theorem Yl {x:Inst} {l:List Vis} :(Z6 x l).length=l.length:=by simp [Z6]
theorem Fk {x:Inst} {l:List Vis} {k:Nat} (h:k<l.length):nth (Z6 x l) k=XL x (nth l k):=by
 grind [Ze,Z6]
theorem AE {P Q:Prop} (h:Q) (e:Q->P:=by intro h;simp (disch:=omega) only [Zu,Zo,Xr,Yf,go_sem,seval];exact h):P:=e h
theorem pG (x:Inst) (r:Rte) (rests:List Bool) (c:Bool) (hok:TrpOk x (ZW x r) (Z6 x r.visits)) (ho:x.orders.length<=1048576) (ht:x.types.length<=1048576) (hne:0<r.visits.length) (hp:VR x r=true) (hl:rests.length=r.visits.length+1) :
  ACalls Tryz.prog 187 [.p (ZG x),.p (Wc r),.p (.list c (rests.map eB))] [] fun y H'=> ∃d:PV,y= .tup [.p (En (Xy x (ZW x r) (Z6 x r.visits) 0 (labF (ZW x r) r.start) rests).1.she),.p d,.p (.int .i64 (Xy x (ZW x r) (Z6 x r.visits) 0 (labF (ZW x r) r.start) rests).2)]/\H'= []:=by
 have hp2:=hp;simp only [VR,ZO,Zl] at hp2;obtain ⟨⟨⟨⟨⟨p1,p2⟩,p3⟩,p4⟩,p5⟩,p6⟩:=hp2;have hvis: ∀k,k<r.visits.length->KI x (nth r.visits k)=true:=fun k hk=>Zv.1 p6 _ (Zq hk)
 have hstop: ∀k,k<r.visits.length->Cd x (nth r.visits k)=nth (Z6 x r.visits) k:=fun k hk=>by
  simp_all [KI,Cd,Fk]
 have hti:r.typ.toNat<x.types.length:=Za
 have hopn:=hok.opn;have hrst:=hok.rst;have htd:ZW x r=nth x.types r.typ.toNat:=rfl
 generalize hT:ZW x r=t at *
 have hsl:(Z6 x r.visits).length=r.visits.length:=Yl
 generalize hS:Z6 x r.visits=sp at *
 refine Zf [26] Tryz.func187 rfl yZ ?_;simp (disch:=omega) only [Tryz.f187,go_sem,seval];refine (EY x r ho ht Za).use (Wt ?_);rw [hp];refine Wt ?_;refine cD ?_ ?_<;>intro h0<;>simp (disch:=omega) only [Sh.out h0,<- htd,go_sem,seval,↓reduceIte]
 ·omega
 ·refine Xa [13] 14 mixed Zd Zd Zd Zb (Wt ?_);refine Zp (Mf t ⟨t.src,max t.opn r.start,0,0⟩ (nth rests 0) (by grind)) (Wt ?_);refine ZF 13 _ _ Zd (by refine Wt ?_;exact ⟨rfl,rfl⟩) (X5 ?_);refine Wt ?_;refine Xa [6] 7 mixed Zd Zd Zd Zb (Wt ?_);refine ZF 6 _ _ Zd (by refine Wt ?_;exact ⟨rfl,rfl⟩) (X5 ?_);refine Wt ?_;have hL0:LabR 0 (labF t r.start):=⟨by grind [labF],by simp [labF],by simp [labF,zShe]⟩
  have hS0:E3 t ⟨t.src,max t.opn r.start,0,0⟩ (nth rests 0)=QM t sp 0 (labF t r.start) (nth rests 0):=by
   simp only [E3,QM,Uj,ZM,Ws,labF,zShe,if_true]
   split<;>rfl
  simp (disch:=omega) only [hS0,go_sem,seval]
  refine Xe [26] [2,3,4,6,9,10,11] (fun q:Nat×Lab×List Int=> [(12,.sl 7 0 q.2.2.length q.2.2.length),(13,.p (.int .i64 q.1))])
   (fun q=> [Zj x,Xb r,.cells [.p (.bool false),.p (.int .i64 0),.p (.list true []),.p (.int .i64 0),.p (.int .i64 0)],Ym t,Zb5 (QM t sp q.1 q.2.1 (nth rests q.1)),
    .cells [.p (.bool (XZ q.1 (ZM t q.2.1 (nth rests q.1)) (nth rests q.1) q.2.1.she).rest),.p (.int .i64 (XZ q.1 (ZM t q.2.1 (nth rests q.1)) (nth rests q.1) q.2.1.she).dep),.sl 6 0 (XZ q.1 (ZM t q.2.1 (nth rests q.1)) (nth rests q.1) q.2.1.she).times.length (XZ q.1 (ZM t q.2.1 (nth rests q.1)) (nth rests q.1) q.2.1.she).times.length,.p (.int .i64 0),.p (.int .i64 0)],
    .elems 4 ((XZ q.1 (ZM t q.2.1 (nth rests q.1)) (nth rests q.1) q.2.1.she).times.map eTim),.elems 1 (q.2.2.map eI)])
   (fun q=>q.1<=r.visits.length/\Xy x t sp 0 (labF t r.start) rests=Xy x t sp q.1 q.2.1 (rests.drop q.1)/\LabR q.1 q.2.1/\q.2.1.she.times.length=q.1/\q.2.1.she.fin=0/\(0<q.1->q.2.1.she.times_c=false)/\q.2.2.length=q.1) (fun q=>r.visits.length-q.1) (0,labF t r.start,[])
   ⟨Zb,Zb,hL0,by rfl,by rfl,Zb,Zb⟩ ((Weak.nilC (o:=5) (j:=2) 4 rfl rfl Zb).trans (Weak.ofNil 12 1 rfl Zb (Weak.mk ?_))) ?_
  ·simp (disch:=omega) only [Zj,Xb,Ym,Zb5,QM,Uj,XZ,labF,zShe,Zo,Zw,Xr,Yf,ZY,Xk,go_sem,seval]
  ·rintro ⟨k,L,ds⟩ ⟨hk,hrun,hL,hlen,hfin,hclip,hds⟩;simp only at hk hrun hL hlen hfin hclip hds
   have hmlen:(XZ k (ZM t L (nth rests k)) (nth rests k) L.she).times.length=k:=by grind [Ac]
   have hd:=J8 hok hL (nth rests k);have hs:=Fi hL (nth rests k);have hg:=HN hok hL (nth rests k);have hmi:=hL.mil
   generalize hm:XZ k (ZM t L (nth rests k)) (nth rests k) L.she=m at *
   have hmm:m.miles=L.she.miles:=by rw [<- hm,Kh]
   have hmf:m.fin=0:=by grind [GA]
   have hdrop:rests.drop k=nth rests k::rests.drop (k+1):=by grind [UG,Ze]
   have hnx:nxtF x t sp k L (nth rests k)=Wz t sp k (Y7 x t sp k (ZM t L (nth rests k))) (ZM t L (nth rests k)) (Ws L (nth rests k)) m:=by rw [nxtF,hm]
   rw [hdrop,Xy] at hrun;simp (disch:=omega) only [Zj,Xb,Ym,Zb5,go_sem,seval];refine cD ?_ ?_<;>intro h<;>simp (disch:=omega) only [Sh.out h,go_sem,seval,↓reduceIte]
   ·have hk2:k<r.visits.length:=Za
    have hsp:=hok.stp _ (ZD (show k<sp.length by omega));refine Xa [10,11] 12 mixed Zd Zd Zd Zb (Wt ?_);refine Wr (MF x (nth r.visits k) ho) (Wt ?_);refine ZF 10 _ _ Zd (by refine Wt ?_;exact ⟨rfl,rfl⟩) ?_;refine Wt ?_;refine ZF 11 _ _ Zd (by refine Wt ?_;exact ⟨rfl,rfl⟩) (X5 ?_);simp (disch:=omega) only [hstop k hk2,go_sem,seval];obtain ⟨f1,f2⟩:=Tj (x:=x) (t:=t) (d:=ZM t L (nth rests k)) (s:=Ws L (nth rests k)) (h:=m) (show k<sp.length by omega) hsp.2.1 hmm
    have he2:goN x.net t.prof (Uj t sp k) (nth sp k).place (ZM t L (nth rests k))=Y7 x t sp k (ZM t L (nth rests k)):=by
     grind [Y7,To]
    refine X4 (ME x t (QM t sp k L (nth rests k)) (nth sp k).place (nth sp k).cls 14 hok.net ?_ ?_ ?_ ?_) ?_
    ·grind [QM]
    ·grind [QM,TN]
    ·grind [QM,TN]
    ·grind [QM,TN]
    have f1':(Q1 x t (QM t sp k L (nth rests k)) (nth sp k).place (nth sp k).cls 14).2=(nxtF x t sp k L (nth rests k)).2:=by rw [hnx,<- f1];rfl
    refine Wt ?_;rw [f1'];refine cD ?_ ?_<;>intro h3<;>simp (disch:=omega) only [Sh.out h3,go_sem,seval,↓reduceIte]
    ·rw [if_neg h3] at hrun;rw [hrun];simp only [Wv,zShe];exact ⟨_,_,Weak.mk (by simp (disch:=omega) only [Zo,go_sem,seval]),.list true [],rfl,rfl⟩
    ·have h3':(nxtF x t sp k L (nth rests k)).2=0:=XU.1 h3;rw [if_pos h3'] at hrun;have hL':=H7 hok Za hL h3';rw [hnx] at h3';obtain ⟨f3,f4⟩:=f2 h3';have f3':(Q1 x t (QM t sp k L (nth rests k)) (nth sp k).place (nth sp k).cls 14).1=⟨(nth sp k).place,(Y7 x t sp k (ZM t L (nth rests k))).1,Ws L (nth rests k)+(Y7 x t sp k (ZM t L (nth rests k))).1-ZM t L (nth rests k),L.she.miles+(Y7 x t sp k (ZM t L (nth rests k))).2.1⟩:=f3
     have hL2:(nxtF x t sp k L (nth rests k)).1=⟨max (Y7 x t sp k (ZM t L (nth rests k))).1 (nth sp k).opn+(nth sp k).serv,Ws L (nth rests k)+(Y7 x t sp k (ZM t L (nth rests k))).1-ZM t L (nth rests k),{ m with times_c:=false,times:=m.times++ [⟨(Y7 x t sp k (ZM t L (nth rests k))).1,max (Y7 x t sp k (ZM t L (nth rests k))).1 (nth sp k).opn,0,false⟩],miles:=L.she.miles+(Y7 x t sp k (ZM t L (nth rests k))).2.1 }⟩:=by grind
     simp (disch:=omega) only [f3',go_sem,seval];refine Xa [13] 14 mixed Zd Zd Zd Zb (Wt ?_);refine ZF 13 _ _ Zd (by refine Wt ?_;exact ⟨rfl,rfl⟩) (X5 ?_);refine Wt ?_
     generalize (nxtF x t sp k L (nth rests k)).1=L2 at *
     have hS1:E3 t ⟨(nth sp k).place,max (Y7 x t sp k (ZM t L (nth rests k))).1 (nth sp k).opn+(nth sp k).serv,Ws L (nth rests k)+(Y7 x t sp k (ZM t L (nth rests k))).1-ZM t L (nth rests k),L.she.miles+(Y7 x t sp k (ZM t L (nth rests k))).2.1⟩ (nth rests (k+1))=QM t sp (k+1) L2 (nth rests (k+1)):=by
      rw [hL2];simp only [E3,QM,Uj,ZM,Ws,Nat.add_sub_cancel,if_neg (show ¬k+1=0 by omega)]
      split<;>rfl
     have hM:XZ (k+1) (ZM t L2 (nth rests (k+1))) (nth rests (k+1)) L2.she= { m with times_c:=false,times:=m.times++ [⟨(Y7 x t sp k (ZM t L (nth rests k))).1,max (Y7 x t sp k (ZM t L (nth rests k))).1 (nth sp k).opn,ZM t L2 (nth rests (k+1)),nth rests (k+1)⟩],miles:=L.she.miles+(Y7 x t sp k (ZM t L (nth rests k))).2.1 } :=by
      have he:L2.she= { m with times_c:=false,times:=m.times++ [⟨(Y7 x t sp k (ZM t L (nth rests k))).1,max (Y7 x t sp k (ZM t L (nth rests k))).1 (nth sp k).opn,0,false⟩],miles:=L.she.miles+(Y7 x t sp k (ZM t L (nth rests k))).2.1 } :=by rw [hL2]
      rw [he,XZ,if_neg Za,Nat.add_sub_cancel]
      grind [NQ]
     have hd2:=J8 hok hL' (nth rests (k+1));refine Z4 8 mixed Zd Zd (Wt ?_);refine Zp (Mf t ⟨(nth sp k).place,max (Y7 x t sp k (ZM t L (nth rests k))).1 (nth sp k).opn+(nth sp k).serv,Ws L (nth rests k)+(Y7 x t sp k (ZM t L (nth rests k))).1-ZM t L (nth rests k),L.she.miles+(Y7 x t sp k (ZM t L (nth rests k))).2.1⟩ (nth rests (k+1)) (by grind)) (Wt ?_);simp (disch:=omega) only [hS1,go_sem,seval];refine ⟨(k+1,L2,ds++ [L2.since]),⟨Za,hrun,hL',by grind,by grind,by grind,by simp [hds]⟩,Za,Weak.mk ?_⟩
     simp (disch:=omega) only [hM,hmlen,Zn,ZH,Zw,X0,Zu,Zo,go_sem,seval];exact ⟨rfl,by grind⟩
   ·have hkl:k=sp.length:=Za
    subst hkl;obtain ⟨f1,f2⟩:=Tl (x:=x) (t:=t) (sp:=sp) (d:=ZM t L (nth rests sp.length)) (s:=Ws L (nth rests sp.length)) (h:=m) hmm
    have he2:goN x.net t.prof (Uj t sp sp.length) t.dst (ZM t L (nth rests sp.length))=Y7 x t sp sp.length (ZM t L (nth rests sp.length)):=by simp [Y7,To]
    refine X4 (ME x t (QM t sp sp.length L (nth rests sp.length)) t.dst t.cls 15 hok.net ?_ ?_ ?_ ?_) ?_
    ·grind [QM]
    ·grind [QM,TN]
    ·grind [QM,TN]
    ·grind [QM,TN]
    have f1':(Q1 x t (QM t sp sp.length L (nth rests sp.length)) t.dst t.cls 15).2=(nxtF x t sp sp.length L (nth rests sp.length)).2:=by rw [hnx,<- f1];rfl
    refine Wt ?_;rw [f1'];have hdl:rests.drop (sp.length+1)= []:=Jt Za;rw [hdl,Xy] at hrun;refine cD ?_ ?_<;>intro h3<;>simp (disch:=omega) only [Sh.out h3,go_sem,seval,↓reduceIte]
    ·rw [if_neg h3] at hrun;rw [hrun];simp only [Wv,zShe];exact ⟨_,_,Weak.mk (by simp (disch:=omega) only [Zo,go_sem,seval]),.list true [],rfl,rfl⟩
    ·have h3':(nxtF x t sp sp.length L (nth rests sp.length)).2=0:=XU.1 h3;rw [if_pos h3'] at hrun;rw [hnx] at h3';obtain ⟨f3,f4⟩:=f2 h3';have f3':(Q1 x t (QM t sp sp.length L (nth rests sp.length)) t.dst t.cls 15).1=⟨t.dst,(Y7 x t sp sp.length (ZM t L (nth rests sp.length))).1,Ws L (nth rests sp.length)+(Y7 x t sp sp.length (ZM t L (nth rests sp.length))).1-ZM t L (nth rests sp.length),L.she.miles+(Y7 x t sp sp.length (ZM t L (nth rests sp.length))).2.1⟩:=f3;rw [hrun,hnx,f4];simp (disch:=omega) only [f3',go_sem,seval];refine Zs (Weak.fz (o:=6) (by rfl)) ?_
     refine Zs (Weak.fz (o:=7) (by rfl)) (Zg [] _ _ _ _ (AE ?_))
     have hmc:m.times_c=false:=by
      grind [XZ]
     exact ⟨_,_,Weak.mk (by simp (disch:=omega) only [hmc,go_sem,seval]),.list false (ds.map eI++ [.int .i64 (Ws L (nth rests sp.length)+(Y7 x t sp sp.length (ZM t L (nth rests sp.length))).1-ZM t L (nth rests sp.length))]),rfl,rfl⟩
theorem kH (x:Inst) (r:Rte) (rests:List Bool) (c:Bool) (hok:TrpOk x (ZW x r) (Z6 x r.visits)) (ho:x.orders.length<=1048576) (ht:x.types.length<=1048576) (hne:0<r.visits.length) (hp:VR x r=true) (hl:rests.length=r.visits.length+1) :
  PT 142 [.p (ZG x),.p (Wc r),.p (.list c (rests.map eB))] [.p (En (Xy x (ZW x r) (Z6 x r.visits) 0 (labF (ZW x r) r.start) rests).1.she),.p (.int .i64 (Xy x (ZW x r) (Z6 x r.visits) 0 (labF (ZW x r) r.start) rests).2)]:=by
 have cr:=pG x r rests c hok ho ht hne hp hl;generalize (Xy x (ZW x r) (Z6 x r.visits) 0 (labF (ZW x r) r.start) rests)=q at cr ⊢;obtain ⟨L,e⟩:=q;refine Zf [] Tryz.func142 rfl xX ?_;simp (disch:=omega) only [Tryz.f142,go_sem,seval];refine Zjo cr fun d=>Wt ?_;exact we
def Df (l:List Bool) (n:Nat):Option (List Bool):=(Yh (l.drop n)).map (l.take n++ ·)
def NX : Option (List Bool)->PV
 | some l=> .list false (l.map eB)
 | none=> .list true []
theorem Kk : ∀m:Nat,Yh (List.replicate m true)=none
 | 0=>rfl
 | m+1=>by rw [Qw,Yh,Kk m];rfl
theorem GD : ∀(a b r:List Bool),Yh b=some r->Yh (a++b)=some (a++r)
 | [],b,r,h=>h
 | x::a,b,r,h=>by rw [ZY,Yh,GD a b r h];rfl
theorem fH (a:List Bool) (m:Nat):Yh (a++false::List.replicate m true)=some (a++true::List.replicate m false):=by
 grind [GD,Yh,Kk]
theorem My {o:List Bool} {i:Nat} {b:Bool} :(o.map eB).set i (.bool b)=(o.set i b).map eB:=by rw [Uh];rfl
theorem fG (l:List Bool) (c:Bool) (n:Nat) (hn:n<=l.length) (h0:0<l.length) (hl:l.length<=1048576):PT 143 [.p (.list c (l.map eB)),.p (.int .i64 (n:Nat))] [.p (NX (Df l n)),.p (.bool (Df l n).isSome)]:=by
 refine Zf [8] Tryz.func143 rfl xY ?_;simp (disch:=omega) only [Tryz.f143,go_sem,seval];rw [if_pos ⟨Za,Za⟩];refine Wt ?_;refine Xe [8] [1] (fun q:Nat×List Bool=> [(6,.sl 0 0 q.2.length q.2.length),(7,.p (.int .i64 ((q.1:Int)-1)))]) (fun q=> [.elems 1 (q.2.map eB)]) (fun q=>n<=q.1/\q.1<=l.length/\q.2=l.take q.1++List.replicate (l.length-q.1) false/\l.drop q.1=List.replicate (l.length-q.1) true) (fun q=>q.1) (l.length,l) (by simp;omega) (Weak.mk ?_) ?_
 ·simp (disch:=omega) only [go_sem,seval]
 ·rintro ⟨j,o⟩ ⟨hj1,hj2,ho,hjt⟩;simp only at hj1 hj2 ho hjt
  have hol:o.length=l.length:=by grind
  refine Wt ?_;refine cD ?_ ?_<;>intro h<;>simp (disch:=omega) only [Sh.out h,go_sem,seval,↓reduceIte]
  ·obtain ⟨i,rfl⟩: ∃i,j=i+1:=⟨j-1,Za⟩
   have hij:(((i+1:Nat):Int)-1)=(i:Int):=Za
   have hat:nth o i=nth l i:=by
    grind [Ze]
   have M1:l.drop i=nth l i::List.replicate (l.length-(i+1)) true:=by
    grind [UG,Ze]
   have hio:i<o.length:=Za
   simp (disch:=first | omega | (simp only [ZH,Zw,Zn,Zx,ZC,ZK]<;>omega)) only [Int.add_sub_cancel,Wq,hat,hio,go_sem,seval,↓reduceIte];refine cD ?_ ?_<;>intro h2<;>simp (disch:=omega) only [Sh.out h2,go_sem,seval]
   ·have hf:nth l i=false:=by grind
    have hres:Df l n=some (o.set i true):=by
     rw [hf] at M1
     have e:l.drop n=(l.drop n).take (i-n)++false::List.replicate (l.length-(i+1)) true:=by
      rw [<- M1,show l.drop i=(l.drop n).drop (i-n) by simp_all,List.take_append_drop]
     rw [Df,e,fH,ho];simp only [K5,XW]
     have e2:l.take (i+1)=l.take n++(l.drop n).take (i-n)++ [nth l i]:=by
      rw [Xo Za,Ze Za]
      congr 1
      have:l.take i=l.take (n+(i-n)):=by congr 1;omega
      grind
     rw [e2,hf]
     have el:(l.take n++(l.drop n).take (i-n)).length=i:=by simp;omega
     rw [UK (l.take n++(l.drop n).take (i-n)),List.set_append_right _ _ Za,el];simp
    rw [hres];simp (disch:=first | omega | (simp only [ZH,Zw,Zn,Zx,ZC,ZK]<;>omega)) only [My,go_sem,seval,↓reduceIte];refine Zs (Weak.fz (o:=0) (by rfl)) ?_;refine Zg [] _ _ _ _ ?_;simp (disch:=omega) only [Zu,Zo,Yf,go_sem,seval];simp only [BK,if_true];exact we (by simp (disch:=omega) only [NX,JC,go_sem,seval])
   ·have hf:nth l i=true:=by grind
    simp (disch:=first | omega | (simp only [ZH,Zw,Zn,Zx,ZC,ZK]<;>omega)) only [My,go_sem,seval];refine ⟨(i,o.set i false),⟨Za,Za,?_,?_⟩,Za,Weak.mk (by simp (disch:=first | omega | (simp only [ZH,Zw,Zn,Zx,ZC,ZK]<;>omega)) only [BK,go_sem,seval])⟩
    ·grind
    grind
  ·have hjn:j=n:=Za
   have hres:Df l n=none:=by grind [Df,Kk]
   rw [hres];exact we (by simp (disch:=omega) only [NX,BD,go_sem,seval])
theorem Sz {r q:List Bool} :Df (r++q) r.length=(Yh q).map (r++ ·):=by simp [Df]
theorem SJ {l:List Bool} :NX (some l)= .list false (l.map eB):=rfl
theorem SI : NX none= .list true []:=rfl
def FX (b:Option Lab):She:=match b with | some L=>L.she | none=>zShe
def FS (r:List Bool) (cur:Option (List Bool)):List (List Bool):=match cur with | some q=>(Y3 q).map (r++ ·) | none=> []
theorem CU {r s:List Bool} :FS r (some s)=(r++s)::FS r (Yh s):=by
 grind [FS,fromB_next]
theorem Mm {x:Inst} {t:Typ} {sp:List Stp} : ∀(bs:List Bool) (k:Nat) (L:Lab),¬(Xy x t sp k L bs).2=0->(Xy x t sp k L bs).1=Wv
 | [],k,L,h=>by simp [Xy] at h
 | b::bs,k,L,h=>by
  rw [Xy] at h ⊢
  split
  ·rename_i c;rw [if_pos c] at h;exact Mm bs _ _ h
  ·rfl
theorem aJ (x:Inst) (r:Rte) (hok:TrpOk x (ZW x r) (Z6 x r.visits)) (ho:x.orders.length<=1048576) (ht:x.types.length<=1048576) (hne:0<r.visits.length) (hp:VR x r=true) (hl:r.rests.length<=r.visits.length+1) :
  PT 89 [.p (ZG x),.p (Wc r)] [.p (En (Xu x r).1),.p (.int .i64 (Xu x r).2)]:=by
 have hsl:(Z6 x r.visits).length=r.visits.length:=Yl;have hp2:=hp;simp only [VR,ZO,Zl] at hp2;have hv20:=hp2.1.2;have hrun:=fun rests (c:Bool) (h:rests.length=r.visits.length+1)=>kH x r rests c hok ho ht hne hp h;have hopt:=fun bs=>VS (x:=x) (t:=ZW x r) (sp:=Z6 x r.visits) bs 0 (labF (ZW x r) r.start);unfold Xu Ux
 generalize hS:Z6 x r.visits=sp at *
 generalize ZW x r=t at *
 generalize labF t r.start=L0 at *
 refine Zf [5,6] Tryz.func89 rfl sS ?_;simp (disch:=omega) only [Tryz.f89,go_sem,seval];refine (EY x r ho ht Za).use (Wt ?_);rw [hp];refine Wt ?_;refine cD ?_ ?_<;>intro h0<;>simp (disch:=omega) only [Sh.out h0,go_sem,seval,↓reduceIte]
 ·omega
 ·refine U0 (DB 3 rfl rfl (Wt ?_));refine ⟨_,_,L5 (e:=4) rfl Tryz.underlying46 Zd rfl rfl rfl ?_ ?_ ?_,?_⟩
  ·simp
  ·simp;omega
  ·intro q hq;obtain ⟨b,_,rfl⟩:=Xg.1 hq
   rfl
  ·have hpl:(Y8 r.rests (sp.length+1)).length=r.visits.length+1:=by simp [Y8];omega
   have hpad:r.rests.map eB++(PV.bool false::List.replicate r.visits.length (PV.bool false)).drop (r.rests.map eB).length=(Y8 r.rests (sp.length+1)).map eB:=by
    rw [Y8,X0,<- Qw,List.drop_replicate,DG,hsl,Zx];rfl
   simp only [Xr,Yf];rw [hpad];have h0r:=hopt (Y8 r.rests (sp.length+1))
   have cn: ∀s:List Bool,(r.rests++s).length=r.visits.length+1->PT 143 [.p (.list false ((r.rests++s).map eB)),.p (.int .i64 (r.rests.length:Nat))] [.p (NX ((Yh s).map (r.rests++ ·))),.p (.bool ((Yh s).map (r.rests++ ·)).isSome)]:=fun s hs=>by
    grind [fG,Sz]
   have e1:(Xy x t sp 0 L0 (Y8 r.rests (sp.length+1))).1.she=FX (Vp (XO x t sp) 0 L0 (Y8 r.rests (sp.length+1))):=by
    rw [h0r]
    split
    ·rfl
    ·rename_i c;rw [Mm _ _ _ c];rfl
   have e2:decide ((Xy x t sp 0 L0 (Y8 r.rests (sp.length+1))).2=0)=(Vp (XO x t sp) 0 L0 (Y8 r.rests (sp.length+1))).isSome:=by
    grind
   have hrp:=hrun (Y8 r.rests (sp.length+1)) false hpl;have hall:YY r.rests (sp.length+1)=FS r.rests (some (List.replicate (sp.length+1-r.rests.length) false)):=rfl;refine Zs (Weak.fz (o:=3) (by rfl)) (Zg [] _ _ _ _ (AE ?_));rw [if_pos hpl];refine X4 hrp (Wt ?_);refine X4 (cn (List.replicate (sp.length+1-r.rests.length) false) hpl) ?_;simp (disch:=omega) only [e1,e2,go_sem,seval]
   have hfm:Vq We none ((YY r.rests (sp.length+1)).filterMap (Vp (XO x t sp) 0 L0))=Vq We (Vp (XO x t sp) 0 L0 (Y8 r.rests (sp.length+1))) ((FS r.rests (Yh (List.replicate (sp.length+1-r.rests.length) false))).filterMap (Vp (XO x t sp) 0 L0)):=by
    rw [hall,CU,List.filterMap_cons];rw [show r.rests++List.replicate (sp.length+1-r.rests.length) false=Y8 r.rests (sp.length+1) from rfl]
    cases Vp (XO x t sp) 0 L0 (Y8 r.rests (sp.length+1)) with
    | none=>rfl
    | some L=>rfl
   clear hall;generalize Vq We none ((YY r.rests (sp.length+1)).filterMap (Vp (XO x t sp) 0 L0))=res at hfm ⊢;generalize (Xy x t sp 0 L0 (Y8 r.rests (sp.length+1))).2=err0
   refine Zk [2,3,4,8,9] (fun q:Option (List Bool)×Option Lab=> [(7,.p (NX (q.1.map (r.rests++ ·)))),(10,.p (.bool q.2.isSome)),(11,.p (.bool (q.1.map (r.rests++ ·)).isSome))])
    (fun q=> [Zj x,Xb r,.cells [.p (.bool false),.p (.int .i64 0),.p (.list true []),.p (.int .i64 0),.p (.int .i64 0)],.dead,.cells [.p (.bool (FX q.2).rest),.p (.int .i64 (FX q.2).dep),.p (.list (FX q.2).times_c ((FX q.2).times.map eTim)),.p (.int .i64 (FX q.2).fin),.p (.int .i64 (FX q.2).miles)]])
    (fun q=>res=Vq We q.2 ((FS r.rests q.1).filterMap (Vp (XO x t sp) 0 L0))/\ ∀s,q.1=some s->s.length=sp.length+1-r.rests.length) (fun q=>(FS r.rests q.1).length)
    (Yh (List.replicate (sp.length+1-r.rests.length) false),Vp (XO x t sp) 0 L0 (Y8 r.rests (sp.length+1))) ⟨hfm,fun s hs=>by have:=fromB_next.nlen _ _ hs;grind⟩ (Weak.mk ?_) ?_
   ·simp (disch:=omega) only [Zj,Xb,go_sem,seval]
   ·rintro ⟨cur,b⟩ ⟨hR,hcl⟩;simp only at hR hcl
    cases cur with
    | none =>
     simp only [FS,List.filterMap_nil] at hR;simp (disch:=omega) only [Option.map_none,BD,SI,Zj,Xb,go_sem,seval]
     cases b with
     | none =>
      rw [Vq] at hR;subst hR;simp (disch:=omega) only [BD,BJ,go_sem,seval];exact we (by simp (disch:=omega) only [zShe,Zo,go_sem,seval])
     | some m =>
      rw [Vq] at hR;subst hR;simp (disch:=omega) only [JC,DF,FX,go_sem,seval];exact we
    | some s =>
     have hsl2:=hcl s rfl;rw [CU,List.filterMap_cons,hopt] at hR
     have hmu:(FS r.rests (Yh s)).length<(FS r.rests (some s)).length:=by rw [CU];simp
     have hnl: ∀s',Yh s=some s'->s'.length=sp.length+1-r.rests.length:=fun s' hs'=>by grind [fromB_next.nlen]
     have hlen:(r.rests++s).length=r.visits.length+1:=by simp;omega
     have hr1:=hrun (r.rests++s) false hlen;have cn1:=cn s hlen;rw [X0] at hr1 cn1;simp (disch:=omega) only [K5,JC,SJ,Zj,Xb,go_sem,seval];generalize Xy x t sp 0 L0 (r.rests++s)=g at hR hr1;obtain ⟨Lg,eg⟩:=g;simp only at hR hr1;refine X4 hr1 (Wt ?_);refine gT ?_ ?_<;>intro h1<;>simp (disch:=omega) only [Sh.out h1,go_sem,seval,↓reduceIte]
     ·subst h1
      cases b with
      | none =>
       simp (disch:=omega) only [BD,BJ,go_sem,seval];refine X4 cn1 (Wt ?_);exact ⟨(Yh s,some Lg),⟨hR,hnl⟩,hmu,Weak.mk (by simp (disch:=omega) only [FX,JC,go_sem,seval])⟩
      | some m =>
       simp (disch:=omega) only [JC,DF,FX,go_sem,seval];refine cD ?_ ?_<;>intro h2<;>simp (disch:=omega) only [Sh.out h2,go_sem,seval,↓reduceIte]
       ·refine X4 cn1 ?_;refine Wt ?_;exact ⟨(Yh s,some Lg),⟨by rw [hR];simp only [if_true,Vq,We,h2],hnl⟩,hmu,Weak.mk (by simp (disch:=omega) only [JC,go_sem,seval])⟩
       ·refine X4 cn1 ?_;refine Wt ?_;exact ⟨(Yh s,some m),⟨by rw [hR];simp only [if_true,Vq,We,h2,Yr],hnl⟩,hmu,Weak.mk (by simp (disch:=omega) only [JC,go_sem,seval])⟩
     ·rw [if_neg h1] at hR;refine X4 cn1 (Wt ?_);exact ⟨(Yh s,b),⟨hR,hnl⟩,hmu,wk⟩
def eR (p:Bool×List Int):PV:= .list p.1 (p.2.map eI)
@[go_sem] theorem Zop (p:Bool×List Int):eR p= .list p.1 (p.2.map eI):=Zh rfl rfl
theorem cC (L:List (Bool×List Int)) (c:Bool) (d:Nat) (hd:d<=3) (hL:L.length<=1048576) (h: ∀p∈L,p.2.length=d):PC 283 [.p (.list c (L.map eR)),.p (.int .i64 (d:Nat))] (.bool true):=by
 refine Zc Tryz.func283 rfl ZaE ?_
 have e1: ¬(d:Int)<0:=Za
 have e2: ¬(3:Int)<d:=Za
 simp (disch:=omega) only [Tryz.f283,e1,e2,go_sem,seval];refine Zk [0,1] (fun k:Nat=> [(5,.p (.int .i64 k))]) (fun _=> []) (fun k=>k<=L.length) (fun k=>L.length-k) 0 Zb (Weak.mk ?_) ?_
 ·simp (disch:=omega) only [go_sem,seval,↓reduceIte]
 ·intro k hk;refine Wt ?_;refine cD ?_ ?_<;>intro h1<;>simp (disch:=omega) only [Sh.out h1,go_sem,seval,↓reduceIte]
  ·have hk2:k<L.length:=Za
   have hp:=h _ (Zq hk2);simp (disch:=omega) only [hp,go_sem,seval];exact ⟨k+1,Za,Za,wk⟩
def Dq (L:List (Bool×List Int)) (k j:Nat):Int:=((L.take k).map fun p=>nth p.2 j).sum
theorem Gb {L:List (Bool×List Int)} {k j:Nat} (h:k<L.length):Dq L (k+1) j=Dq L k j+nth (nth L k).2 j:=by
 grind [Dq,Xo,Ze]
theorem I9 {L:List (Bool×List Int)} {d j:Nat} (h: ∀p∈L,p.2.length=d/\ ∀n∈p.2,0<=n/\n<=1000) (hj:j<d): ∀k,k<=L.length->0<=Dq L k j/\Dq L k j<=1000*(k:Int)
 | 0,_=>by simp [Dq]
 | k+1,hk=>by
  have ih:=I9 h hj k Za;obtain ⟨h1,h2⟩:=h _ (Zq (show k<L.length by omega));have:=h2 _ (Zq (show j<(nth L k).2.length by omega))
  grind [Gb]
def pU (L:List (Bool×List Int)) (d:Nat):List Int:=(List.range d).map fun j=>Dq L L.length j
theorem pT (L:List (Bool×List Int)) (c:Bool) (d:Nat) (hd:1<=d/\d<=3) (hL:L.length<=1048576) (h: ∀p∈L,p.2.length=d/\ ∀n∈p.2,0<=n/\n<=1000) :
  PT 247 [.p (.list c (L.map eR)),.p (.int .i64 (d:Nat))] [.p (.list false ((pU L d).map eI)),.p (.int .i64 0)]:=by
 refine Zf [13] Tryz.func247 rfl Zae ?_;simp (disch:=omega) only [Tryz.f247,go_sem,seval];refine (cC L c d hd.2 hL fun p hp=>(h p hp).1).use (Wt ?_);refine Xe [13] [0,1] (fun q:Nat×List Int=> [(6,.sl 0 0 q.2.length q.2.length),(7,.p (.int .i64 q.1))]) (fun q=> [.elems 1 (q.2.map eI)]) (fun q=>q.1<=d/\q.2=(List.range q.1).map fun j=>Dq L L.length j) (fun q=>d-q.1) (0,[]) Zb (Weak.ofNil 6 1 rfl Zb (Weak.mk ?_)) ?_
 ·simp (disch:=omega) only [Zo,Zw,go_sem,seval,↓reduceIte]
 ·rintro ⟨j,o⟩ ⟨hj,ho⟩;simp only at hj ho
  have hol:o.length=j:=by rw [ho];simp
  refine Wt ?_;refine cD ?_ ?_<;>intro h1<;>simp (disch:=omega) only [Sh.out h1,go_sem,seval,↓reduceIte]
  ·have hj2:j<d:=Za
   refine Zk [0,1,6,7] (fun k:Nat=> [(8,.p (.int .i64 (Dq L k j))),(9,.p (.int .i64 k))]) (fun _=> [.elems 1 (o.map eI)]) (fun k=>k<=L.length) (fun k=>L.length-k) 0 Zb (Weak.mk ?_) ?_
   ·simp (disch:=omega) only [Dq,WV,Zo,List.sum_nil,go_sem,seval,↓reduceIte]
   ·intro k hk;refine Wt ?_;refine cD ?_ ?_<;>intro h2<;>simp (disch:=omega) only [Sh.out h2,go_sem,seval,↓reduceIte]
    ·have hk2:k<L.length:=Za
     obtain ⟨g1,g2⟩:=h _ (Zq hk2);have g3:=g2 _ (Zq (show j<(nth L k).2.length by omega));have g4:=I9 h hj2 k hk;have g5:=Gb (j:=j) hk2
     have g6:j<(nth L k).2.length:=Za
     refine Wt ?_;exact ⟨k+1,Za,Za,Weak.mk (by simp (disch:=omega) only [g5,go_sem,seval])⟩
    ·have hkl:k=L.length:=Za
     subst hkl;refine ⟨(j+1,o++ [Dq L L.length j]),⟨Za,by grind [Yx]⟩,Za,Weak.mk (by simp (disch:=omega) only [Zn,ZH,Zw,X0,Zu,Zo,go_sem,seval])⟩
  ·have hjd:j=d:=Za
   subst hjd;refine Zs (Weak.fz (o:=0) (by rfl)) ?_;refine Zg [] _ _ _ _ ?_;simp (disch:=omega) only [Zu,Zo,Yf,go_sem,seval];rw [pU,<- ho];exact we
theorem cL (a b:List Int) (c d:Bool) (ha:a.length<=1048576) (hb:b.length<=1048576):PC 140 [.p (.list c (a.map eI)),.p (.list d (b.map eI))] (.bool (U1 a b)):=by
 refine Zc Tryz.func140 rfl xV ?_;simp (disch:=omega) only [Tryz.f140,go_sem,seval];refine cD ?_ ?_<;>intro h1<;>simp (disch:=omega) only [Sh.out h1,go_sem,seval]
 ·grind [U1]
 ·have h1':a.length=b.length:=Za
  refine Zk [0,1] (fun k:Nat=> [(5,.p (.int .i64 k))]) (fun _=> []) (fun k=>k<=a.length/\ ∀j,j<k->nth a j<=nth b j) (fun k=>a.length-k) 0 Zb (Weak.mk ?_) ?_
  ·simp (disch:=omega) only [go_sem,seval,↓reduceIte]
  ·rintro k ⟨hk,hno⟩;refine Wt ?_;refine cD ?_ ?_<;>intro h2<;>simp (disch:=omega) only [Sh.out h2,go_sem,seval,↓reduceIte]
   ·have hk2:k<a.length:=Za
    refine XR (Wt ?_);refine cD ?_ ?_<;>intro h3<;>simp (disch:=omega) only [Sh.out h3,go_sem,seval,↓reduceIte]
    ·grind [U1]
    ·exact ⟨k+1,⟨Za,Zm.2 ⟨hno,Za⟩⟩,Za,wk⟩
   ·have hkl:k=a.length:=Za
    simp_all [U1]
theorem bW (x:Inst) (ht:x.types.length<=1048576):PC 248 [.p (ZG x)] (.int .i64 (dimsOf x.types)):=by
 refine Zc Tryz.func248 rfl Zaf ?_;simp (disch:=omega) only [Tryz.f248,go_sem,seval];refine cD ?_ ?_<;>intro h1<;>simp (disch:=omega) only [Sh.out h1,go_sem,seval,↓reduceIte]
 ·grind [dimsOf]
 simp_all [dimsOf]
structure LdOk (x:Inst):Prop where
 ord:x.orders.length<=10
 typ:x.types.length<=1048576
 dim:1<=dimsOf x.types/\dimsOf x.types<=3
 load: ∀o∈x.orders,(o.load.length:Int)=dimsOf x.types/\ ∀n∈o.load,0<=n/\n<=1000
theorem U3 {x:Inst} (h:InstOk x):LdOk x:=by
 have ht:=h.types.1;simp only [rng,Zl] at ht;have ho:=h.orders
 have h0:0<x.types.length:=Za
 have hcap:=h.types.2 0 h0;unfold AG at hcap;obtain ⟨⟨⟨⟨⟨⟨⟨⟨_,_⟩,_⟩,_⟩,hcap⟩,_⟩,_⟩,_⟩,_⟩:=hcap;simp only [Uz,ZO,Zl,rng] at hcap;refine ⟨ho.1,Za,Za,fun o hm=> ?_⟩;obtain ⟨i,hi,rfl⟩:=ZP.1 hm;have:=(ho.2 i hi).load;rw [Ze hi] at this
 simp_all [loadOk,rng]
def FD (x:Inst) (l:List Vis) (n k:Nat):List (Bool×List Int):=((List.range k).filter fun i=>FP x l n i&&hasO l i).map fun i=>((nth x.orders i).load_c,(nth x.orders i).load)
theorem RL {x:Inst} {l:List Vis} {n k:Nat} :FD x l n (k+1)=FD x l n k++if (FP x l n k&&hasO l k)=true then [((nth x.orders k).load_c,(nth x.orders k).load)] else []:=by
 grind [FD,Yx]
theorem aL {x:Inst} {l:List Vis} {n:Nat} : ∀k,(FD x l n k).length<=k:=fun k=>by
 grind [FD]
theorem lP {x:Inst} {l:List Vis} {n k:Nat} (h:LdOk x) (hk:k<=x.orders.length): ∀p∈FD x l n k,p.2.length=(dimsOf x.types).toNat/\ ∀m∈p.2,0<=m/\m<=1000:=fun p hp=>by
 obtain ⟨i,hi,rfl⟩:=Xg.1 hp;have hi2:=ZQ.1 (Vf.1 hi).1;have:=h.load _ (Zq (show i<x.orders.length by omega))
 grind
theorem aM {x:Inst} {l:List Vis} {n:Nat} :pU (FD x l n x.orders.length) (dimsOf x.types).toNat=Wa x l n:=by
 unfold pU Wa
 grind [Dq,FD,Dv,JK]
def tB (x:Inst) (l:List Vis) (n i k:Nat):Bool:=(l.take (min k n)).foldl (fun on v=>if v.order=(i:Int) then !v.drp else on) (decide ((nth x.orders i).pick.place<0))
def NK (l:List Vis) (i k:Nat):Bool:=(l.take k).any fun v=>decide (v.order=(i:Int))
theorem fN {x:Inst} {l:List Vis} {n i k:Nat} (h:k<l.length):tB x l n i (k+1)=if (nth l k).order=(i:Int) then (if k<n then !(nth l k).drp else tB x l n i k) else tB x l n i k:=by
 grind [tB,Xo,Ze]
theorem Sb {l:List Vis} {i k:Nat} (h:k<l.length):NK l i (k+1)=if (nth l k).order=(i:Int) then true else NK l i k:=by
 grind [NK,Xo,Ze]
theorem oB {x:Inst} {l:List Vis} {n i:Nat} (h:n<=l.length):tB x l n i l.length=FP x l n i:=by
 grind [tB,FP]
theorem dN {l:List Vis} {i:Nat} :NK l i l.length=hasO l i:=by grind [NK,hasO]
theorem Ro (x:Inst) (l:List Vis) (c:Bool) (n:Nat) (hx:LdOk x) (hl:l.length<=1048576) (hn:n<=l.length) :
  PT 185 [.p (ZG x),.p (.list c (l.map Xc)),.p (.int .i64 (n:Nat))] [.p (.list false ((Wa x l n).map eI)),.p (.int .i64 0)]:=by
 have ho:=hx.ord;refine Zf [15] Tryz.func185 rfl yX ?_;simp (disch:=omega) only [Tryz.f185,go_sem,seval];refine Xe [15] [1,2,3] (fun q:Nat×List (Bool×List Int)=> [(8,.sl 1 0 q.2.length q.2.length),(9,.p (.int .i64 q.1))]) (fun q=> [Zj x,.elems 1 (q.2.map eR)]) (fun q=>q.1<=x.orders.length/\q.2=FD x l n q.1) (fun q=>x.orders.length-q.1) (0,[]) (by simp [FD]) (Weak.ofNil 8 1 rfl Zb (Weak.mk ?_)) ?_
 ·simp (disch:=omega) only [Zj,Zo,Zw,ZY,Xk,go_sem,seval]
 ·rintro ⟨i,o⟩ ⟨hi,hob⟩;simp only at hi hob
  have hol:o.length<=i:=by grind [aL]
  refine Wy ?_;refine cD ?_ ?_<;>intro h1<;>simp (disch:=omega) only [Sh.out h1,go_sem,seval,↓reduceIte]
  ·have hi2:i<x.orders.length:=Za
   refine Zk [1,2,3,8,9] (fun k:Nat=> [(10,.p (.bool (tB x l n i k))),(11,.p (.bool (NK l i k))),(12,.p (.int .i64 k))]) (fun _=> [Zj x,.elems 1 (o.map eR)]) (fun k=>k<=l.length) (fun k=>l.length-k) 0 Zb (Weak.mk ?_) ?_
   ·simp (disch:=omega) only [Zj,tB,NK,Nat.zero_min,WV,Qv,List.any_nil,go_sem,seval]
   ·intro k hk;refine Wy ?_;refine cD ?_ ?_<;>intro h2<;>simp (disch:=omega) only [Sh.out h2,go_sem,seval,↓reduceIte]
    ·have hk2:k<l.length:=Za
     have s1:=fN (x:=x) (n:=n) (i:=i) hk2;have s2:=Sb (i:=i) hk2;refine ZN ?_ ?_<;>intro h3
     ·rw [if_neg h3] at s1 s2;exact ⟨k+1,Za,Za,Weak.mk (by simp (disch:=omega) only [s1,s2,go_sem,seval])⟩
     ·have h3':=XU.1 h3;rw [if_pos h3'] at s1 s2;refine ZN ?_ ?_<;>intro h4
      ·rw [if_pos Za] at s1;exact ⟨k+1,Za,Za,Weak.mk (by simp (disch:=omega) only [s1,s2,go_sem,seval])⟩
      ·rw [if_neg Za] at s1;exact ⟨k+1,Za,Za,Weak.mk (by simp (disch:=omega) only [s1,s2,go_sem,seval])⟩
    ·have hkl:k=l.length:=Za
     subst hkl;have s3:=RL (x:=x) (l:=l) (n:=n) (k:=i);rw [oB hn,dN];refine J6 ?_ ?_<;>intro h5
     ·refine ZN ?_ ?_<;>intro h6
      ·rw [h5,h6,Bool.and_self,if_pos rfl] at s3;exact ⟨(i+1,o++ [((nth x.orders i).load_c,(nth x.orders i).load)]),⟨Za,by grind⟩,Za,Weak.mk (by simp (disch:=omega) only [Zn,ZH,Zw,X0,Zu,Zo,go_sem,seval])⟩
      ·rw [h5,h6,DH,if_neg Zb,Qu] at s3;exact ⟨(i+1,o),⟨Za,by grind⟩,Za,wk⟩
     ·have h5':FP x l n i=false:=Za
      rw [h5',U4,if_neg Zb,Qu] at s3;exact ⟨(i+1,o),⟨Za,by grind⟩,Za,wk⟩
  ·have hik:i=x.orders.length:=Za
   subst hik
   have hD:dimsOf x.types=((dimsOf x.types).toNat:Int):=by have:=hx.dim;omega
   have hok:=lP (l:=l) (n:=n) hx (Xf _);rw [<- hob] at hok;have hs:=aM (x:=x) (l:=l) (n:=n);rw [<- hob] at hs;refine Zs (Weak.fz (o:=1) (by rfl)) (Zg [] _ _ _ _ (AE ?_));refine (bW x hx.typ).use (Wt ?_);rw [hD];refine X4 (pT o false (dimsOf x.types).toNat (by have:=hx.dim;omega) Za hok) (Wt ?_);rw [<- hs];exact we
def jY (l:List Int):PV:= .list false (l.map eI)
@[go_sem] theorem wK (l:List Int):jY l= .list false (l.map eI):=Zh rfl rfl
def Qa (x:Inst) (l:List Vis):List (List Int):=(List.range (l.length+1)).map (Wa x l)
theorem Sp (x:Inst) (r:Rte) (hx:InstOk x) (hl:r.visits.length<=1048576) (h0:Xl x r.visits=0) (hchk:PC 86 [.p (ZG x),.p (Wc r)] (.int .i64 (Xl x r.visits))) :
  PT 139 [.p (ZG x),.p (Wc r)] [.p (.list false ((Qa x r.visits).map jY)),.p (.int .i64 0)]:=by
 have hd:=U3 hx;refine Zf [12] Tryz.func139 rfl xU ?_;simp (disch:=omega) only [Tryz.f139,go_sem,seval];refine (hchk).use (Wt ?_);simp (disch:=omega) only [h0,go_sem,seval];refine Xe [12] [2,3] (fun q:Nat×List (List Int)=> [(7,.sl 2 0 q.2.length q.2.length),(8,.p (.int .i64 q.1))]) (fun q=> [Zj x,Xb r,.elems 1 (q.2.map jY)]) (fun q=>q.1<=r.visits.length+1/\q.2=(List.range q.1).map (Wa x r.visits)) (fun q=>r.visits.length+1-q.1) (0,[]) Zb (Weak.ofNil 7 1 rfl Zb (Weak.mk ?_)) ?_
 ·simp (disch:=omega) only [Zj,Xb,Zo,Zw,ZY,Xk,go_sem,seval]
 ·rintro ⟨k,o⟩ ⟨hk,ho⟩;simp only at hk ho
  have hol:o.length=k:=by rw [ho];simp
  refine Dk ?_;refine cD ?_ ?_<;>intro h1<;>simp (disch:=omega) only [Sh.out h1,go_sem,seval,↓reduceIte]
  ·refine X4 (Ro x r.visits r.visits_c k hd hl Za) (Wt ?_);exact ⟨(k+1,o++ [Wa x r.visits k]),⟨Za,by grind [Yx]⟩,Za,Weak.mk (by simp (disch:=omega) only [Zn,ZH,Zw,X0,Zu,Zo,go_sem,seval])⟩
  ·have hkl:k=r.visits.length+1:=Za
   subst hkl;refine Zs (Weak.fz (o:=2) (by rfl)) (Zg [] _ _ _ _ (AE ?_));rw [Qa,<- ho];exact we
theorem cM (x:Inst) (r:Rte) (hx:InstOk x) (hl:r.visits.length<=1048576) (hty:0<=r.typ/\r.typ<(x.types.length:Int)) (h0:Xl x r.visits=0) (hchk:PC 86 [.p (ZG x),.p (Wc r)] (.int .i64 (Xl x r.visits))) :
  PC 88 [.p (ZG x),.p (Wc r)] (.int .i64 (if U9 x (ZW x r).cap r.visits=true then 0 else 17)):=by
 have hd:=U3 hx;have htl:=hd.typ
 have hti:r.typ.toNat<x.types.length:=Za
 have hcp:(nth x.types r.typ.toNat).cap.length<=3:=by
  have hcap:=hx.types.2 _ hti;unfold AG at hcap;obtain ⟨⟨⟨⟨⟨⟨⟨⟨_,_⟩,_⟩,_⟩,hcap⟩,_⟩,_⟩,_⟩,_⟩:=hcap;simp only [Uz,ZO,Zl,rng] at hcap;omega
 have hll:(Qa x r.visits).length=r.visits.length+1:=by simp [Qa]
 have hln: ∀k,k<r.visits.length+1->nth (Qa x r.visits) k=Wa x r.visits k:=fun k hk=>by
  grind [Ze,Qa]
 have hal: ∀k,(Wa x r.visits k).length<=3:=fun k=>by rw [D4];have:=hd.dim;omega
 have cl:=Sp x r hx hl h0 hchk;unfold ZW
 generalize hL:Qa x r.visits=L at *
 refine Zc Tryz.func88 rfl ZhC ?_
 have e1: ¬r.typ<0:=Za
 have e2: ¬(x.types.length:Int)<=r.typ:=Za
 simp (disch:=omega) only [Tryz.f88,e1,e2,go_sem,seval];refine X4 cl (Wt ?_);refine Zk [2,3,5] (fun k:Nat=> [(7,.p (.int .i64 k))]) (fun _=> [Zj x,Xb r]) (fun k=>k<=r.visits.length+1/\ ∀j,j<k->U1 (Wa x r.visits j) (nth x.types r.typ.toNat).cap=true) (fun k=>r.visits.length+1-k) 0 Zb (Weak.mk ?_) ?_
 ·simp (disch:=omega) only [Zj,Xb,go_sem,seval]
 ·rintro k ⟨hk,hno⟩;simp (disch:=omega) only [Zj,Xb,hll,go_sem,seval];refine cD ?_ ?_<;>intro h1<;>simp (disch:=omega) only [Sh.out h1,go_sem,seval,↓reduceIte]
  ·have hk2:k<r.visits.length+1:=Za
   have hk3:k<L.length:=Za
   have hk4:=hal k;refine XR ?_;simp (disch:=omega) only [hln k hk2,go_sem,seval];refine Zp (cL (Wa x r.visits k) (nth x.types r.typ.toNat).cap false (nth x.types r.typ.toNat).cap_c Za Za) (Wt ?_);refine ZN ?_ ?_<;>intro h2
   ·have h2':U1 (Wa x r.visits k) (nth x.types r.typ.toNat).cap=false:=by grind
    have: ¬U9 x (nth x.types r.typ.toNat).cap r.visits=true:=fun h=>by
     grind [U9]
    grind
   ·exact ⟨k+1,⟨Za,Zm.2 ⟨hno,by grind⟩⟩,Za,wk⟩
  ·have:U9 x (nth x.types r.typ.toNat).cap r.visits=true:=by
    grind [U9]
   grind
def I1 (j:Nat):Int:=if j=63 then-9223372036854775808 else ((pw j:Nat):Int)
theorem OS {j:Nat} (h:j<63):I1 j=((pw j:Nat):Int):=by rw [I1,if_neg Za]
theorem ZbS {j:Nat} (h:j<=62):pw j<=4611686018427387904:=by have:=Dg h;rwa [GO] at this
theorem I2 {j:Nat} (h:j<=63):0<I1 j↔j<63:=by
 grind [I1,If]
theorem tP {S q:Nat} (hS:S<9223372036854775808) (h:q<=S):IntKind.i64.wrap (q:Int)=(q:Int):=by rw [IntKind.wrap_i64];omega
theorem ZbU {P:Program} {t:TypeId} {S j:Nat} (hS:S<9223372036854775808):Yb P .quo t (.p (.int .i64 (S:Int))) (.p (.int .i64 ((pw j:Nat):Int)))=some (.int .i64 ((S / pw j:Nat):Int)):=by
 have hp:=If j;rw [TS Za]
 have e:(S:Int).tdiv ((pw j:Nat):Int)=((S / pw j:Nat):Int):=by
  rfl
 have hle:=Nat.div_le_self S (pw j);rw [e,tP hS hle]
theorem pD {P:Program} {t:TypeId} {S:Nat} :Yb P .rem t (.p (.int .i64 (S:Int))) (.p (.int .i64 2))=some (.int .i64 ((S%2:Nat):Int)):=by
 rfl
theorem Zij {S j:Nat} (hS:S<9223372036854775808):(IntKind.i64.wrap ((S:Int) / ((pw j:Nat):Int))).tmod 2=((S / pw j%2:Nat):Int):=by
 have hle:=Nat.div_le_self S (pw j)
 grind [tP]
theorem fC {P:Program} {t:TypeId} {j:Nat} (h:j<63):Yb P .mul t (.p (.int .i64 ((pw j:Nat):Int))) (.p (.int .i64 2))=some (.int .i64 (I1 (j+1))):=by
 grind [TQ,I1,ZbS,pw,IntKind.wrap_i64]
theorem TV (t:Typ) (s:Int) (h1:t.skills<9223372036854775808) (h2:s<9223372036854775808):PC 87 [.p (Uf t),.p (.int .i64 s)] (.bool (WD t s)):=by
 refine Zc Tryz.func87 rfl ZhB ?_;simp (disch:=omega) only [Tryz.f87,go_sem,seval];refine gF ?_ ?_<;>intro c1<;>simp (disch:=omega) only [Sh.out c1,go_sem,seval,↓reduceIte]
 ·grind [WD]
 ·refine cD ?_ ?_<;>intro c2<;>simp (disch:=omega) only [Sh.out c2,go_sem,seval]
  ·grind [WD]
  ·obtain ⟨M,hM⟩: ∃M:Nat,t.skills=(M:Int):=⟨t.skills.toNat,Za⟩;obtain ⟨S,rfl⟩: ∃S:Nat,s=(S:Int):=⟨s.toNat,Za⟩
   have hMl:M<9223372036854775808:=Za
   have hSl:S<9223372036854775808:=Za
   have hab: ∀b:Bool,((List.range 63).all fun i=> !S.testBit i||M.testBit i)=b->WD t (S:Int)=b:=fun b hb=>by
    simp_all [WD]
   refine Zk [1,2] (fun j:Nat=> [(5,.p (.int .i64 (I1 j)))]) (fun _=> [Ym t]) (fun j=>j<=63/\ ∀i,i<j->(!S.testBit i||M.testBit i)=true) (fun j=>63-j) 0 Zb (Weak.mk ?_) ?_
   ·simp (disch:=omega) only [Ym,hM,show I1 0=1 from rfl,go_sem,seval]
   ·rintro j ⟨hj,hno⟩;simp (disch:=omega) only [Ym,hM,go_sem,seval];refine cD ?_ ?_<;>intro c3<;>simp (disch:=omega) only [Sh.out c3,go_sem,seval,↓reduceIte]
    ·have hj2:j<63:=(I2 hj).1 c3;simp (disch:=omega) only [OS hj2,Zij hSl,Hv,go_sem,seval];refine gT ?_ ?_<;>intro c4<;>simp (disch:=omega) only [Sh.out c4,OS hj2,ZbU hMl,Zij hSl,pD,fC hj2,Hv,Hu,go_sem,seval]
     ·refine cD ?_ ?_<;>intro c5<;>simp (disch:=omega) only [Sh.out c5,fC hj2,go_sem,seval]
      ·grind
      ·exact ⟨j+1,⟨Za,Zm.2 ⟨hno,by grind⟩⟩,Za,Weak.mk (by simp (disch:=omega) only [hM,go_sem,seval])⟩
     ·exact ⟨j+1,⟨Za,Zm.2 ⟨hno,by grind⟩⟩,Za,Weak.mk (by simp (disch:=omega) only [hM,go_sem,seval])⟩
    ·have hj63:j=63:=by
      rcases Wh j 63 with h | h
      ·simp_all [I2]
      ·omega
     simp_all
theorem Nq (l:List Vis) (c:Bool) (n:Nat) (hn:n<l.length) (hl:l.length<=1048576):PC 144 [.p (.list c (l.map Xc)),.p (.int .i64 (n:Nat))] (.bool (VX l n)):=by
 refine Zc Tryz.func144 rfl xZ ?_;simp (disch:=omega) only [Tryz.f144,go_sem,seval];refine Zk [0,1] (fun k:Nat=> [(5,.p (.int .i64 k))]) (fun _=> []) (fun k=>k<=n/\ ∀j,j<k->(nth l j).order≠(nth l n).order) (fun k=>n-k) 0 Zb (Weak.mk ?_) ?_
 ·simp (disch:=omega) only [go_sem,seval,↓reduceIte]
 ·rintro k ⟨hk,hno⟩;refine Wt ?_;refine cD ?_ ?_<;>intro h1<;>simp (disch:=omega) only [Sh.out h1,go_sem,seval,↓reduceIte]
  ·have hk2:k<n:=Za
   have hk3:k<l.length:=Za
   refine XR (Wt ?_);refine cD ?_ ?_<;>intro h2<;>simp (disch:=omega) only [Sh.out h2,go_sem,seval,↓reduceIte]
   ·grind [VX,Ki]
   ·exact ⟨k+1,⟨Za,Zm.2 ⟨hno,h2⟩⟩,Za,wk⟩
  ·have hkn:k=n:=Za
   subst hkn
   have:VX l k=true:=by
    unfold VX;rw [Xq,XV];intro v hv;obtain ⟨j,j1,j2,rfl⟩:=UT hv
    grind
   rw [this]
def Uk (c m o w:Int):AM.Obj:= .cells [.p (.int .i64 c),.p (.int .i64 m),.p (.int .i64 o),.p (.int .i64 w)]
theorem Bi {x:Inst} {l:List Vis} {t:Int} : ∀n:Nat,(0<=(chgF x l t n).1/\(chgF x l t n).1<=n)/\(0<=(chgF x l t n).2/\(chgF x l t n).2<=n)
 | 0=>by simp [chgF]
 | n+1=>by
  have ih:=Bi (x:=x) (l:=l) (t:=t) n
  grind [chgF]
theorem S1 (x:Inst) (r:Rte) (s:She) (hty:0<=r.typ/\r.typ<(x.types.length:Int)) (ho:x.orders.length<=1048576) (ht:x.types.length<=1048576) (hl:r.visits.length<=1048576) (hv:Inr x r.visits)
  (hc:0<=(ZW x r).fixed/\(ZW x r).fixed<=100000/\0<=(ZW x r).perMile/\(ZW x r).perMile<=100/\0<=(ZW x r).perTick/\(ZW x r).perTick<=100) (ho2:0<=(ZW x r).opn/\(ZW x r).opn<=4096)
  (hf: -4096<=s.fin/\s.fin<=8192) (hm:0<=s.miles/\s.miles<=1000000) :
  PC 90 [.p (ZG x),.p (Wc r),.p (En s)] (Ar (Ip x r s)):=by
 have hti:r.typ.toNat<x.types.length:=Za
 unfold Ip;have htd:nth x.types r.typ.toNat=ZW x r:=rfl
 generalize ZW x r=t at *
 have e1: ¬r.typ<0:=Za
 have e2: ¬(x.types.length:Int)<=r.typ:=Za
 have p1:0<=t.perMile*s.miles/\t.perMile*s.miles<=100*1000000:=⟨V1 Za Za,Vx Za Za Za Za⟩
 have hW: -8192<=s.fin-t.opn/\s.fin-t.opn<=8192:=Za
 have p2: -819200<=t.perTick*(s.fin-t.opn)/\t.perTick*(s.fin-t.opn)<=819200:=by
  generalize s.fin-t.opn=w at hW;have a1:=CE hW.2 (show 0<=t.perTick by omega);have a2:=CE hW.1 (show 0<=t.perTick by omega);omega
 have p3: -128<=(s.fin-t.opn).tdiv 64/\(s.fin-t.opn).tdiv 64<=128:=by
  grind
 have p4:0<=(s.fin-t.opn).tdiv 64*(s.fin-t.opn).tdiv 64/\(s.fin-t.opn).tdiv 64*(s.fin-t.opn).tdiv 64<=16384:=by
  generalize (s.fin-t.opn).tdiv 64=q at p3;refine ⟨?_,?_⟩
  ·rcases K8 0 q with h | h
   ·exact V1 h h
   ·exact Int.mul_nonneg_of_nonpos_of_nonpos h h
  ·rcases K8 0 q with h | h
   ·have:=Vx p3.2 p3.2 h Za;omega
   ·have h2:0<= -q:=Za
    have:=Vx (show-q<=128 by omega) (show-q<=128 by omega) h2 Za
    grind
 refine Zc Tryz.func90 rfl ZhD ?_;simp (disch:=omega) only [Tryz.f90,e1,e2,htd,go_sem,seval];refine Zk [3,4,6,9] (fun k:Nat=> [(10,.p (.int .i64 k))]) (fun k=> [Zj x,Xb r,.cells [.p (.bool s.rest),.p (.int .i64 s.dep),.p (.list s.times_c (s.times.map eTim)),.p (.int .i64 s.fin),.p (.int .i64 s.miles)],Uk 0 0 0 0,Ym t,Uk (t.fixed+t.perMile*s.miles+t.perTick*(s.fin-t.opn)) (chgF x r.visits r.typ k).1 (chgF x r.visits r.typ k).2 ((s.fin-t.opn).tdiv 64*(s.fin-t.opn).tdiv 64)]) (fun k=>k<=r.visits.length) (fun k=>r.visits.length-k) 0 Zb (Weak.mk ?_) ?_
 ·simp (disch:=omega) only [Zj,Xb,Ym,Uk,chgF,go_sem,seval]
 ·intro k hk;have hch:=Bi (x:=x) (l:=r.visits) (t:=r.typ) k;simp (disch:=omega) only [Zj,Xb,Ym,Uk,go_sem,seval];refine cD ?_ ?_<;>intro h1<;>simp (disch:=omega) only [Sh.out h1,go_sem,seval,↓reduceIte]
  ·have hk2:k<r.visits.length:=Za
   obtain ⟨v1,v2⟩:=hv _ (Zq hk2)
   have e3: ¬(nth r.visits k).order<0:=Za
   have e4: ¬(x.orders.length:Int)<=(nth r.visits k).order:=Za
   have v3:(nth r.visits k).order.toNat<x.orders.length:=Za
   simp (disch:=omega) only [e3,e4,go_sem,seval];refine (Nq r.visits r.visits_c k hk2 hl).use (Wt ?_);have hcs:chgF x r.visits r.typ (k+1)=_:=chgF.eq_2 x r.visits r.typ k;refine ZN ?_ ?_<;>intro h2
   ·have h2': ¬VX r.visits k=true:=by grind
    exact ⟨k+1,Za,Za,Weak.mk (by simp (disch:=omega) only [hcs,if_neg h2',go_sem,seval])⟩
   ·have h2':VX r.visits k=true:=by grind
    refine XR (Wt ?_);refine gT ?_ ?_<;>intro h3<;>simp (disch:=omega) only [Sh.out h3,go_sem,seval,↓reduceIte]
    ·refine cD ?_ ?_<;>intro h4<;>simp (disch:=omega) only [Sh.out h4,go_sem,seval,↓reduceIte]
     ·have hn:Xh (nth x.orders (nth r.visits k).order.toNat).now r.typ=true:=by simp [Xh,h3,h4]
      refine XR (Wt ?_);refine J6 ?_ ?_<;>intro h5
      ·refine ZN ?_ ?_<;>intro h6
       ·have hl2:Xh (nth x.orders (nth r.visits k).order.toNat).last r.typ=true:=by simp [Xh,h5,h6]
        exact ⟨k+1,Za,Za,Weak.mk (by simp (disch:=omega) only [hcs,if_pos h2',hn,hl2,go_sem,seval,↓reduceIte])⟩
       ·have hl2:Xh (nth x.orders (nth r.visits k).order.toNat).last r.typ=false:=by simp_all [Xh]
        exact ⟨k+1,Za,Za,Weak.mk (by simp (disch:=omega) only [hcs,if_pos h2',hn,hl2,V2,Yo,go_sem,seval,↓reduceIte])⟩
      ·have hl2:Xh (nth x.orders (nth r.visits k).order.toNat).last r.typ=false:=by simp_all [Xh]
       exact ⟨k+1,Za,Za,Weak.mk (by simp (disch:=omega) only [hcs,if_pos h2',hn,hl2,V2,Yo,go_sem,seval,↓reduceIte])⟩
     ·have hn:Xh (nth x.orders (nth r.visits k).order.toNat).now r.typ=false:=by simp_all [Xh]
      refine XR (Wt ?_);refine J6 ?_ ?_<;>intro h5
      ·refine ZN ?_ ?_<;>intro h6
       ·have hl2:Xh (nth x.orders (nth r.visits k).order.toNat).last r.typ=true:=by simp [Xh,h5,h6]
        exact ⟨k+1,Za,Za,Weak.mk (by simp (disch:=omega) only [hcs,if_pos h2',hn,hl2,V2,Yo,go_sem,seval,↓reduceIte])⟩
       ·have hl2:Xh (nth x.orders (nth r.visits k).order.toNat).last r.typ=false:=by grind
        exact ⟨k+1,Za,Za,Weak.mk (by simp (disch:=omega) only [hcs,if_pos h2',hn,hl2,V2,Yo,go_sem,seval,↓reduceIte])⟩
      ·have hl2:Xh (nth x.orders (nth r.visits k).order.toNat).last r.typ=false:=by simp_all [Xh]
       exact ⟨k+1,Za,Za,Weak.mk (by simp (disch:=omega) only [hcs,if_pos h2',hn,hl2,V2,Yo,go_sem,seval,↓reduceIte])⟩
    ·have hn:Xh (nth x.orders (nth r.visits k).order.toNat).now r.typ=false:=by simp_all [Xh]
     refine XR (Wt ?_);refine J6 ?_ ?_<;>intro h5
     ·refine ZN ?_ ?_<;>intro h6
      ·have hl2:Xh (nth x.orders (nth r.visits k).order.toNat).last r.typ=true:=by simp [Xh,h5,h6]
       exact ⟨k+1,Za,Za,Weak.mk (by simp (disch:=omega) only [hcs,if_pos h2',hn,hl2,V2,Yo,go_sem,seval,↓reduceIte])⟩
      ·have hl2:Xh (nth x.orders (nth r.visits k).order.toNat).last r.typ=false:=by simp_all [Xh]
       exact ⟨k+1,Za,Za,Weak.mk (by simp (disch:=omega) only [hcs,if_pos h2',hn,hl2,V2,Yo,go_sem,seval,↓reduceIte])⟩
     ·have hl2:Xh (nth x.orders (nth r.visits k).order.toNat).last r.typ=false:=by grind
      exact ⟨k+1,Za,Za,Weak.mk (by simp (disch:=omega) only [hcs,if_pos h2',hn,hl2,V2,Yo,go_sem,seval,↓reduceIte])⟩
  grind
theorem SqOk.len {x:Inst} {l:List Vis} (h:SqOk x l) (hn:x.orders.length<=10):l.length<=20:=by
 have h1:=List.Nodup.length_le_of_subset (l₁ :=l) (l₂ :=(List.range 10).flatMap fun i:Nat=> [(⟨(i:Int),false⟩:Vis),⟨(i:Int),true⟩]) h.nd (fun v hv=>by
  obtain ⟨v1,v2⟩:=h.inr v hv;rw [YN];refine ⟨v.order.toNat,ZQ.2 Za,?_⟩;obtain ⟨o,d⟩:=v
  have e:((o.toNat:Nat):Int)=o:=by grind
  simp_all)
 have h2:((List.range 10).flatMap fun i:Nat=> [(⟨(i:Int),false⟩:Vis),⟨(i:Int),true⟩]).length=20:=rfl;omega
theorem SqOk.vis {x:Inst} {l:List Vis} (h:SqOk x l) {v:Vis} (hv:v∈l):KI x v=true:=by
 obtain ⟨v1,v2⟩:=h.inr v hv;obtain ⟨i,hi⟩: ∃i:Nat,v.order=(i:Int):=⟨v.order.toNat,Za⟩;have ho:=h.own (i:=i) ⟨v,hv,hi⟩
 have hpl:0<=(XL x v).place:=by
  unfold XL;rw [hi,X6]
  cases hd:v.drp with
  | true=>exact ho.isD (by rw [<- hi,<- hd];exact hv)
  | false=>exact ho.isP (by rw [<- hi,<- hd];exact hv)
 simp [KI,inB,v1,v2,hpl]
theorem oQ {x:Inst} {r:Rte} (h:SqOk x r.visits) (hn:x.orders.length<=10) (ht:0<=r.typ/\r.typ<(x.types.length:Int)):VR x r=(decide (0<=r.start)&&decide (r.start<=4096)):=by
 have h1:r.visits.all (KI x)=true:=Zv.2 fun v hv=>h.vis hv;have h2:=h.len hn
 grind [VR]
theorem PB {n:Net} (h:netOk n):netR n/\ ∀a∈n.arcs,0<=a.miles/\a.miles<=10000:=by
 obtain ⟨⟨⟨h1,_⟩,h2⟩,h3⟩:=h
 have ha: ∀a∈n.arcs,kQ a/\0<=a.miles/\a.miles<=10000:=fun a hm=>by
  obtain ⟨i,hi,rfl⟩:=ZP.1 hm;have:=h3 i hi;unfold IP at this;rw [Ze hi] at this;obtain ⟨⟨⟨⟨⟨_,g1⟩,_⟩,g2⟩,g3⟩,g4⟩:=this;refine ⟨⟨g2,g3,fun p hp=> ?_⟩,g1.2.2.1,g1.2.2.2.1⟩;obtain ⟨j,hj,rfl⟩:=ZP.1 hp
  simp_all [KA,Ze,Iv,rng]
 exact ⟨⟨Za,Za,fun a hm=>(ha a hm).1⟩,fun a hm=>(ha a hm).2⟩
theorem Vl {x:Inst} (hx:InstOk x) {i:Nat} (hi:i<x.types.length):(0<=(nth x.types i).opn/\(nth x.types i).opn<=(nth x.types i).cls/\(nth x.types i).cls<=4096)/\(1<=(nth x.types i).drive/\(nth x.types i).drive<=4096)/\(0<=(nth x.types i).rest/\(nth x.types i).rest<=4096) /\
  (0<=(nth x.types i).fixed/\(nth x.types i).fixed<=100000/\0<=(nth x.types i).perMile/\(nth x.types i).perMile<=100/\0<=(nth x.types i).perTick/\(nth x.types i).perTick<=100)/\(0<=(nth x.types i).skills/\(nth x.types i).skills<=1073741823):=by
 have ht:=hx.types.2 i hi
 simp_all [AG,rng]
theorem KG {x:Inst} {r:Rte} (hx:InstOk x) (ht:0<=r.typ/\r.typ<(x.types.length:Int)) (h:SqOk x r.visits):TrpOk x (ZW x r) (Z6 x r.visits):=by
 have hti:r.typ.toNat<x.types.length:=Za
 obtain ⟨t1,t2,t3,_⟩:=Vl hx hti;obtain ⟨n1,n2⟩:=PB hx.net;refine ⟨n1,n2,t1,t2,t3,fun s hs=> ?_,by rw [Yl];exact h.len hx.orders.1⟩;obtain ⟨v,hv,rfl⟩:=Xg.1 hs;obtain ⟨v1,v2⟩:=h.inr v hv
 have hi:v.order.toNat<x.orders.length:=Za
 have ho:=hx.orders.2 _ hi;have hvis:=h.vis hv;have hp:=ho.pstp;have hd:=ho.dstp;simp only [stpOk,Zl] at hp hd;simp only [KI,ZO,Zl] at hvis;have h3:=hvis.2;unfold XL at h3 ⊢
 grind
theorem Mo {x t sp} (h:TrpOk x t sp): ∀(bs:List Bool) (k:Nat) (L:Lab),k+bs.length=sp.length+1->LabR k L->(Xy x t sp k L bs).2=0->LabR (sp.length+1) (Xy x t sp k L bs).1/\(bs≠ []->(Xy x t sp k L bs).1.she.fin=(Xy x t sp k L bs).1.ready)
 | [],k,L,hk,hl,h0=>by
  simp at hk;subst hk;exact ⟨hl,fun h=>absurd rfl h⟩
 | b::bs,k,L,hk,hl,h0=>by
  simp at hk;rw [Xy] at h0 ⊢
  split at h0
  ·rename_i c;rw [if_pos c];obtain ⟨h1,h2⟩:=Mo h bs (k+1) _ Za (H7 h Za hl c) h0;refine ⟨h1,fun _=> ?_⟩
   cases bs with
   | nil =>
    simp at hk;subst hk;exact L4 (x:=x) (t:=t) (sp:=sp) (y:=L) (b:=b) (by rw [XO,if_pos c];rfl)
   | cons b2 bs=>grind
  omega
theorem Eh {x t sp} {st:Int} {r:List Bool} (h:TrpOk x t sp) (hs:0<=st/\st<=4096) (hr:r.length<=sp.length+1) (h0:(Ux x t sp st r).2=0):(0<=(Ux x t sp st r).1.fin/\(Ux x t sp st r).1.fin<=8192)/\(0<=(Ux x t sp st r).1.miles/\(Ux x t sp st r).1.miles<=210000):=by
 have hL0:LabR 0 (labF t st):=⟨by have:=h.opn;grind [labF],by simp [labF],by simp [labF,zShe]⟩;have hl:=h.len
 have key: ∀bs∈YY r (sp.length+1),(Xy x t sp 0 (labF t st) bs).2=0->(0<=(Xy x t sp 0 (labF t st) bs).1.she.fin/\(Xy x t sp 0 (labF t st) bs).1.she.fin<=8192)/\(0<=(Xy x t sp 0 (labF t st) bs).1.she.miles/\(Xy x t sp 0 (labF t st) bs).1.she.miles<=210000):=fun bs hbs he=>by
  obtain ⟨q,hq,rfl⟩:=Xg.1 hbs;have hql:=bestF_len.fromB_len _ _ hq;simp at hql
  have hne:r++q≠ []:=fun e=>by
   simp_all
  obtain ⟨g1,g2⟩:=Mo h (r++q) 0 _ (by simp;omega) hL0 he;rw [g2 hne];have:=g1.rdy;have:=g1.mil;omega
 unfold Ux at h0 ⊢
 cases hf:Vq We none ((YY r (sp.length+1)).filterMap (Vp (XO x t sp) 0 (labF t st))) with
 | some L =>
  simp only;have:=bestF_len.fmL_mem _ _ hf
  grind [VS]
 | none =>
  grind [zShe]
theorem RH (x:Inst) (r:Rte) (ho:x.orders.length<=1048576) (ht:x.types.length<=1048576) (hl:r.visits.length<=1048576) (hbad:VR x r=false\/r.visits.length+1<r.rests.length) :
  PT 89 [.p (ZG x),.p (Wc r)] [.p (En zShe),.p (.int .i64 2)]:=by
 refine Zf [] Tryz.func89 rfl sS ?_;simp (disch:=omega) only [Tryz.f89,go_sem,seval];refine (EY x r ho ht hl).use (Wt ?_);refine gF ?_ ?_<;>intro h1<;>simp (disch:=omega) only [Sh.out h1,go_sem,seval,↓reduceIte]
 ·exact we (by simp (disch:=omega) only [zShe,Zo,go_sem,seval])
 ·have h2:r.visits.length+1<r.rests.length:=hbad.resolve_left (by grind);refine cD ?_ ?_<;>intro h3<;>simp (disch:=omega) only [Sh.out h3,go_sem,seval,↓reduceIte]
  ·exact we (by simp (disch:=omega) only [zShe,Zo,go_sem,seval])
  ·omega
theorem lX (x:Inst) (r:Rte) (hx:InstOk x) (hl:r.visits.length<=1048576):PC 86 [.p (ZG x),.p (Wc r)] (.int .i64 (Xl x r.visits)):=by
 have hf:=XY hx;have hr:=hx.rules;obtain ⟨h1,h2⟩:=Qs.1 hr
 have ha:x.apart.length<=1048576:=by
  have h3:=(Qs.1 h1).1
  grind [M1]
 have hb:x.before.length<=1048576:=by
  have h3:=(Qs.1 h2).1
  grind [M1]
 have:=Ob x r (by have:=hf.len;omega) hl ha hb hf.plc
 grind [pB]
def Bp (x:Inst) (r:Rte):V:= .tup [.p (En (Ww x r)),.p (Ar (XK x r)),.p (.int .i64 (Z2 x r))]
theorem Ys {x:Inst} {r:Rte} {e:Int} (h:Z2 x r=e) (h0:e≠0):Bp x r= .tup [.p (En zShe),.p (Ar zSco),.p (.int .i64 e)]:=by
 simp_all [Bp,Ww,XK]
theorem Bq (x:Inst) (r:Rte) (hx:InstOk x) (hl:r.visits.length<=1048576) (hrl:r.rests.length<=1048576):ACalls Tryz.prog 48 [.p (ZG x),.p (Wc r)] [] fun y H'=>y=Bp x r/\H'= []:=by
 have hld:=U3 hx;have htl:=hld.typ;have hol:=hld.ord;have chk:=lX x r hx hl
 have htb:x.types.length<=6:=by have:=hx.types.1;simp only [rng,Zl] at this;omega
 refine Zf [] Tryz.func48 rfl Zho ?_;simp (disch:=omega) only [Tryz.f48,go_sem,seval];refine gF ?_ ?_<;>intro h1<;>simp (disch:=omega) only [Sh.out h1,go_sem,seval,↓reduceIte]
 ·have e:Yj x r=2:=by rw [Yj,if_pos Za]
  rw [Ys (e:=2) (by rw [Z2,e];rfl) Za];exact we (by simp (disch:=omega) only [zShe,zSco,Zo,go_sem,seval])
 ·refine cD ?_ ?_<;>intro h2<;>simp (disch:=omega) only [Sh.out h2,go_sem,seval,↓reduceIte]
  ·have e:Yj x r=2:=by simp_all [Yj]
   rw [Ys (e:=2) (by rw [Z2,e];rfl) Za];exact we (by simp (disch:=omega) only [zShe,zSco,Zo,go_sem,seval])
  ·have hty:0<=r.typ/\r.typ<(x.types.length:Int):=Za
   have hti:r.typ.toNat<x.types.length:=Za
   refine (chk).use (Wt ?_);refine cD ?_ ?_<;>intro h3<;>simp (disch:=omega) only [Sh.out h3,go_sem,seval,↓reduceIte]
   ·have e:Yj x r=Xl x r.visits:=by simp_all [Yj]
    rw [Ys (e:=Xl x r.visits) (by simp_all [Z2]) h3];exact we (by simp (disch:=omega) only [zShe,zSco,Zo,go_sem,seval])
   ·have h3':=XU.1 h3;have hsq:=Um h3'
    have hvn:0<r.visits.length:=by
     have:=hsq.ne
     grind
    have hok:=KG hx hty hsq;have hnum:=Vl hx hti
    have hr0:Yj x r=if (r.visits.any fun v=> !WD (ZW x r) (nth x.orders v.order.toNat).skills)=true then 18 else if U9 x (ZW x r).cap r.visits=false then 17 else if ¬(0<=r.start/\r.start<=4096/\r.rests.length<=r.visits.length+1) then 2 else 0:=by
     rw [Yj,if_neg (fun h=>h hty),if_neg h3]
    have htyp:nth x.types r.typ.toNat=ZW x r:=rfl;rw [htyp] at hnum;have hf17:=cM x r hx hl hty h3' chk;have hposs:=oQ hsq hol hty
    have hsk: ∀k,k<r.visits.length->(nth r.visits k).order.toNat<x.orders.length/\0<=(nth x.orders (nth r.visits k).order.toNat).skills/\(nth x.orders (nth r.visits k).order.toNat).skills<=1073741823:=fun k hk=>by
     obtain ⟨v1,v2⟩:=hsq.inr _ (Zq hk)
     have hi:(nth r.visits k).order.toNat<x.orders.length:=Za
     exact ⟨hi,(hx.orders.2 _ hi).skills⟩
    refine Zk [2,3,4,5] (fun k:Nat=> [(8,.p (.int .i64 k))]) (fun _=> [Zj x,Xb r,.cells [.p (.bool false),.p (.int .i64 0),.p (.list true []),.p (.int .i64 0),.p (.int .i64 0)],Uk 0 0 0 0])
     (fun k=>k<=r.visits.length/\ ∀j,j<k->WD (ZW x r) (nth x.orders (nth r.visits j).order.toNat).skills=true) (fun k=>r.visits.length-k) 0 Zb (Weak.mk ?_) ?_
    ·simp (disch:=omega) only [Zj,Xb,Uk,go_sem,seval]
    ·rintro k ⟨hk,hno⟩;simp (disch:=omega) only [Zj,Xb,Uk,go_sem,seval];refine cD ?_ ?_<;>intro h4<;>simp (disch:=omega) only [Sh.out h4,go_sem,seval,↓reduceIte]
     ·have hk2:k<r.visits.length:=Za
      obtain ⟨s1,s2,s3⟩:=hsk k hk2;obtain ⟨v1,v2⟩:=hsq.inr _ (Zq hk2);refine XR ?_;simp (disch:=omega) only [htyp,go_sem,seval];refine Zp (TV (ZW x r) (nth x.orders (nth r.visits k).order.toNat).skills Za Za) (Wt ?_);refine ZN ?_ ?_<;>intro h5
      ·have e:Yj x r=18:=by
        rw [hr0,if_pos]
        grind [Zq]
       rw [Ys (e:=18) (by rw [Z2,e];rfl) Za];exact we (by simp (disch:=omega) only [zShe,zSco,Zo,go_sem,seval])
      ·exact ⟨k+1,⟨Za,Zm.2 ⟨hno,by grind⟩⟩,Za,wk⟩
     ·have hkl:k=r.visits.length:=Za
      subst hkl
      have hall: ¬(r.visits.any fun v=> !WD (ZW x r) (nth x.orders v.order.toNat).skills)=true:=fun h=>by
       obtain ⟨v,hv,hb⟩:=UM.1 h;obtain ⟨j,hj,rfl⟩:=ZP.1 hv
       grind [Ze]
      rw [if_neg hall] at hr0;refine (hf17).use (Wt ?_)
      cases hlb:U9 x (ZW x r).cap r.visits with
      | false =>
       have e:Yj x r=17:=by grind
       simp only [Yo,Yr];refine Wt ?_;rw [Ys (e:=17) (by rw [Z2,e];rfl) Za];exact we (by simp (disch:=omega) only [zShe,zSco,Zo,go_sem,seval])
      | true =>
       rw [hlb,if_neg Zb] at hr0;simp only [if_true];refine Wt ?_
       by_cases h6:0<=r.start/\r.start<=4096/\r.rests.length<=r.visits.length+1
       ·have e:Yj x r=0:=Za
        have hp:VR x r=true:=by grind
        have ee:Z2 x r=(Xu x r).2:=by rw [Z2,if_pos e]
        have cb:=aJ x r hok Za htl hvn hp h6.2.2;have hbr:=Eh hok ⟨h6.1,h6.2.1⟩ (by rw [Yl];exact h6.2.2);have hbr:(Xu x r).2=0->_:=hbr
        change (Xu x r).2=0->(0<=(Xu x r).1.fin/\(Xu x r).1.fin<=8192)/\(0<=(Xu x r).1.miles/\(Xu x r).1.miles<=210000) at hbr
        have es:Ww x r=if (Xu x r).2=0 then (Xu x r).1 else zShe:=by rw [Ww,ee]
        have ep:XK x r=if (Xu x r).2=0 then Ip x r (Xu x r).1 else zSco:=by rw [XK,ee]
        unfold Bp;rw [ee,es,ep];clear ee es ep
        generalize Xu x r=q at *
        obtain ⟨sh,eb⟩:=q;simp only at cb hbr ⊢;refine X4 cb (Wt ?_);refine cD ?_ ?_<;>intro h7<;>simp (disch:=omega) only [Sh.out h7,go_sem,seval,↓reduceIte]
        ·exact we (by simp (disch:=omega) only [zShe,zSco,Zo,go_sem,seval])
        ·have h7':=XU.1 h7
         try rw [if_pos h7',if_pos h7']
         subst h7';obtain ⟨g1,g2⟩:=hbr rfl;refine Z4 5 mixed Zd Zd (Wt ?_);refine Zp (S1 x r sh hty Za htl hl hsq.inr hnum.2.2.2.1 Za Za Za) (Wt ?_);exact we
       ·have e:Yj x r=2:=Za
        rw [Ys (e:=2) (by rw [Z2,e];rfl) Za];refine X4 (RH x r Za htl hl ?_) ?_
        ·grind
        ·refine Wt ?_;exact we (by simp (disch:=omega) only [zShe,zSco,Zo,go_sem,seval])
theorem Tt (x:Inst) (r:Rte) (hx:InstOk x) (hl:r.visits.length<=1048576) (hrl:r.rests.length<=1048576):PC 46 [.p (ZG x),.p (Wc r)] (.int .i64 (Z2 x r)):=by
 have ce:=Bq x r hx hl hrl;refine Zc Tryz.func46 rfl Zhm ?_;simp (disch:=omega) only [Tryz.f46,go_sem,seval];unfold Bp at ce;refine Rb ce ?_;simp (disch:=omega) only [go_sem,seval,↓reduceIte]
theorem Zb0 {p q:Pt} {t:Int} (h1:p.t<=t) (h2:t<q.t) (hp:p.t<=p.a) (hq:q.t<=q.a):t<=FW p q t:=by
 unfold FW
 have hw:0<q.t-p.t:=Za
 have key:(t-p.a)*(q.t-p.t)<=(t-p.t)*(q.a-p.a)+q.t-p.t-1:=by
  have e:(t-p.t)*(q.a-p.a)-(t-p.a)*(q.t-p.t)=(t-p.t)*(q.a-q.t)+(p.a-p.t)*(q.t-t):=by
   grind
  have h3:0<=(t-p.t)*(q.a-q.t):=V1 Za Za;have h4:0<=(p.a-p.t)*(q.t-t):=V1 Za Za;omega
 have:=Int.le_ediv_of_mul_le hw key;omega
theorem kS {l:List Pt} {t:Int} (hl:WK l):t<=Je l t:=by
 obtain ⟨⟨hl1,hl2⟩,hpt⟩:=hl;unfold Je
 split
 ·rename_i i hi;have hm:=Vv hi;have hs:=EH hi;simp at hm;simp only [QA,ZO,Zl] at hs;obtain ⟨⟨p1,p2,p3,p4⟩,_⟩:=hpt i Za;obtain ⟨⟨q1,q2,q3,q4⟩,q5⟩:=hpt (i+1) Za
  simp_all [Zb0]
 ·obtain ⟨⟨p1,p2,p3,p4⟩,_⟩:=hpt 0 Za;obtain ⟨⟨q1,q2,q3,q4⟩,_⟩:=hpt (l.length-1) Za;omega
theorem dJ {n:Net} {pr f t τ:Int} (hn:netR n) (h:(goN n pr f t τ).2.2=0):τ<=(goN n pr f t τ).1:=by
 unfold goN at h ⊢
 split at h
 ·simp at h
 ·rename_i c1;rw [if_neg c1]
  split at h
  ·grind
  ·rename_i c2;rw [if_neg c2]
   split at h
   ·rename_i c3;rw [if_pos c3];have hA:=KR c3;have h1:=kS (t:=τ) (hn.2.2 _ hA).1;have h2:=Q0 (t:=τ) (fun p hp=>((hn.2.2 _ hA).2.2 p hp).2.2) _ (Xf _)
    grind [Hn]
   ·simp at h
theorem F7 {x t sp} {st:Int} {r:List Bool} (hr:r.length<=sp.length+1) (h:(Ux x t sp st r).2=0): ∃bs:List Bool,bs.length=sp.length+1/\(Xy x t sp 0 (labF t st) bs).2=0/\(Ux x t sp st r).1=(Xy x t sp 0 (labF t st) bs).1.she:=by
 unfold Ux at h ⊢
 cases hf:Vq We none ((YY r (sp.length+1)).filterMap (Vp (XO x t sp) 0 (labF t st))) with
 | none =>
  rw [hf] at h;simp only at h ⊢;exfalso
  have hm:Y8 r (sp.length+1)∈YY r (sp.length+1):=by
   grind [YY,Y8,fromB_next]
  have h2:Vp (XO x t sp) 0 (labF t st) (Y8 r (sp.length+1))=some (Xy x t sp 0 (labF t st) (Y8 r (sp.length+1))).1:=by rw [VS,if_pos h]
  have h3:(Xy x t sp 0 (labF t st) (Y8 r (sp.length+1))).1∈(YY r (sp.length+1)).filterMap (Vp (XO x t sp) 0 (labF t st)):=BH.2 ⟨_,hm,h2⟩;generalize (YY r (sp.length+1)).filterMap (Vp (XO x t sp) 0 (labF t st))=l at hf h3
  cases l with
  | nil=>simp at h3
  | cons a l =>
   rw [Vq] at hf;obtain ⟨z,e,_⟩:=QO We l a
   grind
 | some L =>
  simp only;have hm:=bestF_len.fmL_mem _ _ hf;obtain ⟨bs,hbs,hrun⟩:=BH.1 hm;rw [VS] at hrun
  split at hrun
  ·rename_i h5;simp at hrun;subst hrun;obtain ⟨q,hq,rfl⟩:=Xg.1 hbs;have hql:=bestF_len.fromB_len _ _ hq
   grind
  ·cases hrun
structure Sr where
 rdy:Int
 drv:Int
 deriving Inhabited,DecidableEq
def V7 (l:List Sr) (s:Sr):List Sr:=if s∈l then l else l++ [s]
def Vj (t:Typ) (l:List Sr) (d v:Int):List Sr:=V7 (V7 l ⟨d,v⟩) ⟨d+t.rest,0⟩
def Q4 (x:Inst) (t:Typ) (from':Int) (stop:Stp) (out:List Sr) (a:Sr):List Sr :=
 if ¬(goN x.net t.prof from' stop.place a.rdy).2.2=0\/t.drive<a.drv+(goN x.net t.prof from' stop.place a.rdy).1-a.rdy then out
 else if stop.cls<max (goN x.net t.prof from' stop.place a.rdy).1 stop.opn then out
 else Vj t out (max (goN x.net t.prof from' stop.place a.rdy).1 stop.opn+stop.serv) (a.drv+(goN x.net t.prof from' stop.place a.rdy).1-a.rdy)
def C2 (x:Inst) (t:Typ) (from':Int) (st:List Sr) (stop:Stp):List Sr:=st.foldl (Q4 x t from' stop) []
theorem Sl {l:List Sr} {s a:Sr} :a∈V7 l s↔a∈l\/a=s:=by
 grind [V7]
theorem WW {t:Typ} {l:List Sr} {d v:Int} {a:Sr} :a∈Vj t l d v↔a∈l\/a=⟨d,v⟩\/a=⟨d+t.rest,0⟩:=by
 simp [Vj,Sl,or_assoc]
theorem O2 {n:Nat} (h:n<10):dec n= [UInt8.ofNat (48+n)]:=by rw [dec,dif_pos h]
theorem mL {n:Nat} (h:10<=n) (h2:n<100):dec n= [UInt8.ofNat (48+n / 10),UInt8.ofNat (48+n%10)]:=by
 rw [dec,dif_neg Za,O2 Za];rfl
theorem IR {s:List UInt8} {k k':IntKind} {a b:Int} (h:0<=a/\a<=b/\b<=(s.length:Int)):Hp (some .string) s (.p (.int k a)) (.p (.int k' b))=some (.p (.str ((s.take b.toNat).drop a.toNat))):=by
 simp_all [Hp]
def digT : List UInt8:=(List.range 36).map fun i=>UInt8.ofNat (if i<10 then 48+i else 87+i)
def smalT : List UInt8:=(List.range 100).flatMap fun i=> [UInt8.ofNat (48+i / 10),UInt8.ofNat (48+i%10)]
theorem mM : ∀n,n<10->(digT.take (n+1)).drop n= [UInt8.ofNat (48+n)]:=by decide
theorem iQ : ∀n,n<100->(smalT.take (2*n+2)).drop (2*n)= [UInt8.ofNat (48+n / 10),UInt8.ofNat (48+n%10)]:=by decide+kernel
theorem pO (n:Nat) (hn:n<100):PC 331 [.p (.int .i64 (n:Int))] (.str (dec n)):=by
 refine Zc Tryz.func331 rfl Zbo ?_;simp (disch:=omega) only [Tryz.f331,go_sem,seval];refine cD ?_ ?_<;>intro h<;>simp (disch:=omega) only [Sh.out h,go_sem,seval]
 ·rw [O2 Za,IR (by simp;omega)]
  have e1:((n:Int)+1).toNat=n+1:=Za
  have e2:((n:Int)).toNat=n:=Za
  rw [e1,e2];refine (XC (fun z=>A2 (some (V.p (PV.str z))) _) (mM n Za)).mpr ?_;simp (disch:=omega) only [go_sem,seval]
 ·rw [mL Za hn,IR (by simp;omega)]
  have e1:((n:Int)*2+2).toNat=2*n+2:=Za
  have e2:((n:Int)*2).toNat=2*n:=Za
  rw [e1,e2];refine (XC (fun z=>A2 (some (V.p (PV.str z))) _) (iQ n Za)).mpr ?_;simp (disch:=omega) only [go_sem,seval]
theorem cY (n:Nat) (hn:n<100):PC 330 [.p (.int .i64 (n:Int)),.p (.int .i64 10)] (.str (dec n)):=by
 refine Zc Tryz.func330 rfl Zbn ?_
 have h0:(0:Int)<=(n:Int):=Za
 have h1:(n:Int)<100:=Za
 simp (disch:=omega) only [Tryz.f330,h0,h1,go_sem,seval];refine (pO n hn).use ?_;simp (disch:=omega) only [go_sem,seval]
theorem nJ (n:Nat) (hn:n<100):PC 329 [.p (.int .i64 (n:Int))] (.str (dec n)):=by
 refine Zc Tryz.func329 rfl Zbm ?_;simp (disch:=omega) only [Tryz.f329,go_sem,seval];refine (cY n hn).use ?_;simp (disch:=omega) only [go_sem,seval]
theorem Zbp (n:Nat) (hn:n<100):PC 328 [.p (.int .i64 (n:Int))] (.str (dec n)):=by
 refine Zc Tryz.func328 rfl Zbl ?_;simp (disch:=omega) only [Tryz.f328,go_sem,seval];refine (nJ n hn).use ?_;simp (disch:=omega) only [go_sem,seval]
theorem MT (n a b:Int):PC 321 [.p (.int .i64 n),.p (.int .i64 a),.p (.int .i64 b)] (.bool (decide (a<=n)&&decide (n<=b))):=by
 refine Zc Tryz.func321 rfl Zbe ?_;simp (disch:=omega) only [Tryz.f321,go_sem,seval]
 repeat' (first | (refine gT ?_ ?_<;>intro hq<;>simp (disch:=omega) only [Sh.out hq,go_sem,seval,↓reduceIte]) | (refine Us (fun hq=> ?_) (fun hq=> ?_)<;>(try simp only [Zl,XM,XU] at hq)<;>simp (disch:=omega) only [Sh.out hq,go_sem,seval]) | (refine Ja (fun hq=> ?_) (fun hq=> ?_)<;>(try simp only [Zl,XM,XU] at hq)<;>simp (disch:=omega) only [Sh.out hq,go_sem,seval]))
 all_goals (simp;first | done | omega)
theorem fW (l:List Pt) (c:Bool) (hl:WK l):PC 325 [.p (.list c (l.map Gd))] (.list true []):=by
 obtain ⟨⟨hl1,hl2⟩,hpt⟩:=hl;refine Zc Tryz.func325 rfl Zbi ?_
 have e1: ¬(l.length:Int)=0:=Za
 have e2: ¬(16:Int)<(l.length:Int):=Za
 simp (disch:=omega) only [Tryz.f325,e1,e2,go_sem,seval];refine Zk [0,19,20] (fun k:Nat=> [(3,.p (.list true [])),(21,.p (.int .i64 k))]) (fun _=> []) (fun k=>k<=l.length) (fun k=>l.length-k) 0 Zb (Weak.mk ?_) ?_
 ·simp (disch:=omega) only [go_sem,seval,↓reduceIte]
 ·intro k hk;refine Wt ?_;refine cD ?_ ?_<;>intro h<;>simp (disch:=omega) only [Sh.out h,go_sem,seval,↓reduceIte]
  ·have hk2:k<l.length:=Za
   obtain ⟨⟨p1,p2,p3,p4⟩,q⟩:=hpt k hk2;refine (Zbp k Za).use (Wt ?_);refine (MT (nth l k).t 0 4096).use (Wt ?_);simp (disch:=omega) only [p1,p2,go_sem,seval];refine gF ?_ ?_<;>intro h3<;>simp (disch:=omega) only [Sh.out h3,go_sem,seval,↓reduceIte]
   ·omega
   ·refine cD ?_ ?_<;>intro h4<;>simp (disch:=omega) only [Sh.out h4,go_sem,seval,↓reduceIte]
    ·omega
    ·refine XR (Wt ?_);refine gT ?_ ?_<;>intro h5<;>simp (disch:=omega) only [Sh.out h5,go_sem,seval,↓reduceIte]
     ·obtain ⟨r1,r2⟩:=q Za;refine gF ?_ ?_<;>intro h6<;>simp (disch:=omega) only [Sh.out h6,go_sem,seval,↓reduceIte]
      ·omega
      ·refine cD ?_ ?_<;>intro h7<;>simp (disch:=omega) only [Sh.out h7,go_sem,seval,↓reduceIte]
       ·omega
       ·exact ⟨k+1,Za,Za,wk⟩
     ·exact ⟨k+1,Za,Za,wk⟩
theorem OW (p:Pt) (t:Int) (h:0<=p.t/\p.t<=4096) (ht:0<=t/\t<=1073741824):PC 327 [.p (Gd p),.p (.int .i64 t)] (.int .i64 (p.t-t)):=by
 refine Zc Tryz.func327 rfl Zbk ?_;simp (disch:=omega) only [Tryz.f327,go_sem,seval,↓reduceIte]
theorem pE (l:List Pt) (c:Bool) (hl:WK l):PC 322 [.p (.list c (l.map Gd))] (.bool true):=by
 refine Zc Tryz.func322 rfl Zbf ?_;simp (disch:=omega) only [Tryz.f322,go_sem,seval];refine (fW l c hl).use ?_;simp (disch:=omega) only [go_sem,seval]
structure PosT (l:List Pt) (t:Int) (i:Nat):Prop where
 le:i<=l.length
 lo: ∀j,j<i->(nth l j).t<t
 hi: ∀j,i<=j->j<l.length->t<=(nth l j).t
theorem ZgA (l:List Pt) (c:Bool) (t:Int) (i:Nat) (hl:WK l) (ht:0<=t/\t<=1073741824) (hi:PosT l t i):PT 326 [.p (.list c (l.map Gd)),.p (.int .i64 t),.fn (.func 327) [] []] [.p (.int .i64 (i:Int)),.p (.bool (decide (i<l.length)&&decide ((nth l i).t=t)))]:=by
 obtain ⟨⟨hl1,hl2⟩,hpt⟩:=hl;obtain ⟨hi1,hi2,hi3⟩:=hi;refine Zf [] Tryz.func326 rfl Zbj ?_;simp (disch:=omega) only [Tryz.f326,go_sem,seval];refine Zk [0,1,2,8] (fun q:Nat×Nat=> [(9,.p (.int .i64 q.1)),(10,.p (.int .i64 q.2))]) (fun _=> []) (fun q=>q.1<=i/\i<=q.2/\q.2<=l.length) (fun q=>q.2-q.1) (0,l.length) (by simp;omega) (Weak.mk ?_) ?_
 ·simp (disch:=omega) only [go_sem,seval,↓reduceIte]
 ·rintro ⟨a,b⟩ ⟨h1,h2,h3⟩;simp only at h1 h2 h3;refine Wt ?_;refine cD ?_ ?_<;>intro h<;>simp (disch:=omega) only [Sh.out h,go_sem,seval,↓reduceIte]
  ·have hm:(a+b) / 2<l.length:=Za
   obtain ⟨⟨p1,p2,p3,p4⟩,q⟩:=hpt _ hm
   have hs:((a:Int)+(b:Int)).fdiv (2^min 1 64)=(((a+b) / 2:Nat):Int):=by
    grind
   have em:((((a+b) / 2:Nat)):Int).toNat=(a+b) / 2:=Za
   have hnb:((a+b) / 2<i)↔(nth l ((a+b) / 2)).t-t<0:=by
    grind
   rw [hs];refine Wt ?_;refine (OW (nth l ((a+b) / 2)) t ⟨p1,p2⟩ ht).use (Wt ?_);refine cD ?_ ?_<;>intro h4<;>simp (disch:=omega) only [Sh.out h4,go_sem,seval,↓reduceIte]
   ·exact ⟨((a+b) / 2+1,b),⟨Za,h2,h3⟩,Za,wk⟩
   ·exact ⟨(a,(a+b) / 2),⟨h1,Za,Za⟩,Za,wk⟩
  ·have:a=i:=Za
   subst this;refine gT ?_ ?_<;>intro h4<;>simp (disch:=omega) only [Sh.out h4,go_sem,seval,↓reduceIte]
   ·have hm:a<l.length:=Za
    obtain ⟨⟨p1,p2,p3,p4⟩,q⟩:=hpt _ hm;refine (OW (nth l a) t ⟨p1,p2⟩ ht).use (Wt ?_);have e5:((nth l a).t-t=0)=((nth l a).t=t):=propext Za;exact we (by simp (disch:=omega) only [e5,hm,go_sem,seval])
   ·have hm: ¬a<l.length:=Za
    exact we (by simp (disch:=omega) only [hm,go_sem,seval])
theorem B2 {l:List Pt} (hl:WK l) {k:Nat} (hk:k<l.length): ∀j,j<k->(nth l j).t<(nth l k).t:=by
 obtain ⟨_,hpt⟩:=hl
 induction k with
 | zero=>omega
 | succ k ih =>
  intro j hj;obtain ⟨_,q⟩:=hpt (k+1) hk
  grind
theorem oP {l:List Pt} (hl:WK l) (t:Int): ∃i,PosT l t i:=by
 have: ∀n,n<=l.length-> ∃i,i<=n/\(∀j,j<i->(nth l j).t<t)/\(i<n->t<=(nth l i).t):=by
  intro n
  induction n with
  | zero=>simp
  | succ n ih =>
   grind
 obtain ⟨i,h1,h2,h3⟩:=this l.length (Xf _);refine ⟨i,h1,h2,fun j hj hjl=> ?_⟩;rcases Nat.lt_or_eq_of_le hj with h | h
 ·have:=B2 hl hjl i h;omega
 grind
theorem kR {l:List Pt} {t:Int} {i:Nat} (hl:WK l) (h:PosT l t i) (hi:i<l.length) (e:(nth l i).t=t):Je l t=(nth l i).a:=by
 by_cases g:i+1<l.length
 ·have m:=B2 hl g i Za;rw [Ho g (fun j hj=> ?_) (by grind [QA]),FW]
  ·rw [e,Int.sub_self,Int.zero_mul,BF];rw [Int.ediv_eq_zero_of_lt Za Za];omega
  ·have:(nth l (j+1)).t<=t:=by
    rcases Nat.lt_or_eq_of_le (show j+1<=i by omega) with h1 | h1
    ·have:=h.lo _ h1;omega
    grind
   simp [QA];omega
 ·have hi1:i=l.length-1:=Za
  rw [DA (fun j hj=> ?_)]
  ·split
   ·grind
   ·have:i=0:=by
     by_cases g2:i=0
     ·exact g2
     ·have:=h.lo 0 Za;omega
    grind
  ·have:(nth l (j+1)).t<=t:=by
    rcases Nat.lt_or_eq_of_le (show j+1<=i by omega) with h1 | h1
    ·have:=h.lo _ h1;omega
    grind
   simp [QA];omega
theorem kU {l:List Pt} {t:Int} (hl:WK l) (h:PosT l t 0) (e: ¬(nth l 0).t=t):Je l t=t+(nth l 0).a-(nth l 0).t:=by
 have h0:=h.hi 0 (Xf _) hl.1.1;rw [DA (fun j hj=> ?_),if_neg Za]
 have:t<(nth l j).t:=by
  by_cases g:j=0
  ·grind
  ·have:=B2 hl (show j<l.length by omega) 0 Za;omega
 simp [QA];omega
theorem kT {l:List Pt} {t:Int} (h:PosT l t l.length) (hl:0<l.length):Je l t=t+(nth l (l.length-1)).a-(nth l (l.length-1)).t:=by
 rw [DA (fun j hj=> ?_),if_pos (h.lo 0 hl)];have:=h.lo (j+1) hj;simp [QA];omega
theorem aA {l:List Pt} {t:Int} {i:Nat} (h:PosT l t i) (h0:0<i) (hi:i<l.length) (e: ¬(nth l i).t=t):Je l t=FW (nth l (i-1)) (nth l i) t:=by
 have e1:i-1+1=i:=Za
 have h1:=h.lo (i-1) Za;have h2:=h.hi i (Xf _) hi;have:=Ho (l:=l) (t:=t) (i:=i-1) Za (fun j hj=>by have:=h.lo (j+1) Za;simp [QA];omega) (by grind [QA]);rw [this,e1]
theorem GU {p q:Pt} {t:Int} (h1:p.t<=t) (h2:t<q.t) (hp:0<=p.t) (hq:q.t<=4096) (ha:p.a<=q.a) (hpa:0<=p.a) (hqa:q.a<=8192) :
  IntKind.i64.wrap (p.a+IntKind.i64.wrap ((IntKind.i64.wrap (IntKind.i64.wrap (IntKind.i64.wrap ((t-p.t)*(q.a-p.a))+(q.t-p.t))-1)).tdiv (q.t-p.t)))=FW p q t:=by
 have hm:=Fe h1 h2 hp hq ha hpa hqa;unfold FW;generalize hM:(t-p.t)*(q.a-p.a)=m at hm
 have hd:0<=(m+(q.t-p.t)-1) / (q.t-p.t)/\(m+(q.t-p.t)-1) / (q.t-p.t)<=m+(q.t-p.t)-1:=by
  refine ⟨Int.ediv_nonneg Za Za,Int.ediv_le_self _ Za⟩
 rw [IntWalk.i64_in m Za,IntWalk.i64_in (m+(q.t-p.t)) Za,IntWalk.i64_in (m+(q.t-p.t)-1) Za,Int.tdiv_eq_ediv_of_nonneg Za,IntWalk.i64_in ((m+(q.t-p.t)-1) / (q.t-p.t)) Za,IntWalk.i64_in _ Za]
 congr 2
 omega
theorem N0 (l:List Pt) (c:Bool) (t:Int) (hl:WK l) (ht:0<=t/\t<=1073741824):PC 323 [.p (.list c (l.map Gd)),.p (.int .i64 t)] (.int .i64 (Je l t)):=by
 obtain ⟨i,hi⟩:=oP hl t;have hl':=hl;obtain ⟨⟨hl1,hl2⟩,hpt⟩:=hl';refine Zc Tryz.func323 rfl Zbg ?_;simp (disch:=omega) only [Tryz.f323,go_sem,seval];refine X4 (ZgA l c t i hl ht hi) (Wt ?_);obtain ⟨i1,i2,i3⟩:=id hi;refine cD ?_ ?_<;>intro h<;>simp (disch:=omega) only [Sh.out h,go_sem,seval,↓reduceIte]
 ·grind [kR]
 ·refine cD ?_ ?_<;>intro h0<;>simp (disch:=omega) only [Sh.out h0,go_sem,seval]
  ·have:i=0:=Za
   subst this;obtain ⟨p1,p2⟩:=hpt 0 Za;rw [kU hl hi (fun g=>h ⟨Za,g⟩)];refine XR ?_;simp (disch:=omega) only [go_sem,seval,↓reduceIte]
  ·refine cD ?_ ?_<;>intro h1<;>simp (disch:=omega) only [Sh.out h1,go_sem,seval]
   ·have:i=l.length:=Za
    subst this;obtain ⟨p1,p2⟩:=hpt (l.length-1) Za;rw [kT hi Za]
    have e1:((l.length:Int)-1).toNat=l.length-1:=Za
    refine XR ?_;simp (disch:=omega) only [go_sem,seval,↓reduceIte]
   ·have g1:i<l.length:=Za
    rw [aA hi Za g1 (fun g=>h ⟨g1,g⟩)];have g2:=B2 hl g1 (i-1) Za;obtain ⟨p1,p2⟩:=hpt i g1;obtain ⟨p3,p4⟩:=hpt (i-1) Za
    have e1:((i:Int)-1).toNat=i-1:=Za
    have q1:=i2 (i-1) Za;have q2:=i3 i (Xf _) g1;have q3: ¬(nth l i).t=t:=fun g=>h ⟨g1,g⟩;have q4:=p2 Za;refine Xa [9,10,11] 12 mixed Zd Zd Zd Zb ?_;simp (disch:=omega) only [e1,go_sem,seval];refine Gv 9 10 _ _ _ _ Zd (by refine Wt ?_;exact ⟨rfl,rfl⟩) (by refine Wt ?_;exact ⟨rfl,rfl⟩) ?_ ?_
    ·refine ZF 10 _ _ Zd (by refine Wt ?_;exact ⟨rfl,rfl⟩) (ZF 11 _ _ Zd (by refine Wt ?_;exact ⟨rfl,rfl⟩) (X5 ?_));refine Wt ?_;refine XR (Wt ?_);exact XC (fun z=>V.p (PV.int IntKind.i64 z)) (GU Za Za Za Za Za Za Za)
    ·refine ZF 9 _ _ Zd (by refine Wt ?_;exact ⟨rfl,rfl⟩) (ZF 11 _ _ Zd (by refine Wt ?_;exact ⟨rfl,rfl⟩) (X5 ?_));refine Wt ?_;refine XR (Wt ?_);exact XC (fun z=>V.p (PV.int IntKind.i64 z)) (GU Za Za Za Za Za Za Za)
theorem SM (l:List Pt) (c:Bool) (t:Int) (hl:WK l) (ht:0<=t/\t<=1073741824):PC 317 [.p (.list c (l.map Gd)),.p (.int .i64 t)] (.int .i64 (Je l t)):=by
 refine Zc Tryz.func317 rfl Zba ?_;simp (disch:=omega) only [Tryz.f317,go_sem,seval];refine (MT t 0 1073741824).use (Wt ?_);simp (disch:=omega) only [ht,go_sem,seval];refine (pE l c hl).use (Wt ?_);refine (N0 l c t hl ht).use ?_;simp (disch:=omega) only [go_sem,seval]
theorem Ma (n:Net) (p:Int) (hn:n.places.length<=1048576):PC 301 [.p (Bo n),.p (.int .i64 p)] (.bool (Kp n p)):=by
 refine Zc Tryz.func301 rfl ZaV ?_;simp (disch:=omega) only [Tryz.f301,go_sem,seval];refine gT ?_ ?_<;>intro h<;>simp (disch:=omega) only [Sh.out h,go_sem,seval,↓reduceIte]
 ·simp [Kp,h]
 ·simp [Kp,h]
theorem qF (a:Arc):PC 316 [.p (Ud a)] (.agg [.int .i64 a.src,.int .i64 a.dst,.int .i64 a.prof]):=by
 refine Zc Tryz.func316 rfl Za9 ?_;simp (disch:=omega) only [Tryz.f316,go_sem,seval,↓reduceIte]
theorem oH (a:Arc) (t:Int) (ha:kQ a) (ht:0<=t/\t<=1073741824):PC 303 [.p (Ud a),.p (.int .i64 t)] (.int .i64 (Hn a t)):=by
 obtain ⟨h1,h2,h3⟩:=ha;have hr:=Ea h1 ht;have hs:=Q0 (t:=t) (fun p hp=>(h3 p hp).2.2);refine Zc Tryz.func303 rfl ZaX ?_;simp (disch:=omega) only [Tryz.f303,go_sem,seval];refine (SM a.travel a.travel_c t h1 ht).use (Wt ?_);refine Zk [1,13,14] (fun k:Nat=> [(5,.p (.int .i64 (Je a.travel t+JT a.slow t k))),(15,.p (.int .i64 k))]) (fun _=> [ZdR a]) (fun k=>k<=a.slow.length) (fun k=>a.slow.length-k) 0 Zb (Weak.mk ?_) ?_
 ·simp (disch:=omega) only [ZdR,JT,Qv,go_sem,seval];simp
 ·intro k hk;have hsk:=hs k hk;simp (disch:=omega) only [ZdR,go_sem,seval];refine cD ?_ ?_<;>intro h<;>simp (disch:=omega) only [Sh.out h,go_sem,seval,↓reduceIte]
  ·have hk2:k<a.slow.length:=Za
   have hp:=h3 _ (ZD hk2);have hsn:=A6 (t:=t) hk2;refine ZN ?_ ?_<;>intro h4
   ·rw [if_pos h4] at hsn;exact ⟨k+1,Za,Za,Weak.mk (by simp (disch:=omega) only [hsn,Int.add_assoc,go_sem,seval])⟩
   ·rw [if_neg h4] at hsn;exact ⟨k+1,Za,Za,Weak.mk (by simp (disch:=omega) only [hsn,go_sem,seval])⟩
  grind [Hn]
theorem oK (n:Net) (pr f t:Int) (hn:n.arcs.length<=1048576):PT 302 [.p (Bo n),.p (.int .i64 pr),.p (.int .i64 f),.p (.int .i64 t)] [.p (Ud (Wx n pr f t).1),.p (.bool (Wx n pr f t).2)]:=by
 refine Zf [] Tryz.func302 rfl ZaW ?_;simp (disch:=omega) only [Tryz.f302,go_sem,seval];refine Zk [8,10,18,19] (fun k:Nat=> [(20,.p (.int .i64 k))]) (fun _=>ZZ n++ [ZdR VF,.cells [.p (.int .i64 f),.p (.int .i64 t),.p (.int .i64 pr)]]) (fun k=>k<=n.arcs.length/\ ∀j,j<k->W8 pr f t (nth n.arcs j)=false) (fun k=>n.arcs.length-k) 0 Zb (Weak.mk ?_) ?_
 ·simp (disch:=omega) only [ZZ,ZdR,VF,Zo,ZY,Xk,go_sem,seval]
 ·rintro k ⟨hk,hno⟩;simp (disch:=omega) only [ZZ,ZdR,VF,Zo,ZY,Xk,go_sem,seval];refine cD ?_ ?_<;>intro h<;>simp (disch:=omega) only [Sh.out h,go_sem,seval,↓reduceIte]
  ·have hk2:k<n.arcs.length:=Za
   have nx:W8 pr f t (nth n.arcs k)=false-> ∀j,j<k+1->W8 pr f t (nth n.arcs j)=false:=fun h=>Zm.2 ⟨hno,h⟩;refine XR (Wt ?_);refine Zp (qF (nth n.arcs k)) (Wt ?_);refine ZN ?_ ?_<;>intro h1
   ·have e:=Ln hk2 hno (by simp [W8,h1]);obtain ⟨rfl,rfl,rfl⟩:=h1;rw [e];exact we
   ·have e2:W8 pr f t (nth n.arcs k)=false:=by
     simp_all [W8]
    exact ⟨k+1,⟨Za,nx e2⟩,Za,wk⟩
  ·have hkn:k=n.arcs.length:=Za
   subst hkn;rw [Lo hno];exact we (by simp (disch:=omega) only [VF,Zo,go_sem,seval])
theorem tD (n:Net) (pr f t τ:Int) (hn:netR n) (hτ:0<=τ/\τ<=1073741824):PT 278 [.p (Bo n),.p (.int .i64 pr),.p (.int .i64 f),.p (.int .i64 t),.p (.int .i64 τ)] [.p (.int .i64 (goN n pr f t τ).1),.p (.int .i64 (goN n pr f t τ).2.1),.p (.int .i64 (goN n pr f t τ).2.2)]:=by
 refine Zf [] Tryz.func278 rfl ZaB ?_;simp (disch:=omega) only [Tryz.f278,go_sem,seval];refine (Ma n f hn.1).use (Wt ?_);refine gF ?_ ?_<;>intro h1<;>simp (disch:=omega) only [Sh.out h1,go_sem,seval,↓reduceIte]
 ·have e:goN n pr f t τ=(0,0,11):=by grind [goN]
  rw [e];exact we
 ·simp only [Xp] at h1;refine (Ma n t hn.1).use (Wt ?_);refine cD ?_ ?_<;>intro h2<;>simp (disch:=omega) only [Sh.out h2,go_sem,seval]
  ·have e:goN n pr f t τ=(0,0,11):=by grind [goN]
   rw [e];exact we
  ·simp only [Xp] at h2;refine cD ?_ ?_<;>intro h3<;>simp (disch:=omega) only [Sh.out h3,go_sem,seval,↓reduceIte]
   ·have e:goN n pr f t τ=(τ,0,0):=by grind [goN]
    rw [e];exact we
   ·have cf:=oK n pr f t hn.2.1;have hm:= @KR n pr f t
    have e0:goN n pr f t τ=if (Wx n pr f t).2=true then (Hn (Wx n pr f t).1 τ,(Wx n pr f t).1.miles,0) else (0,0,12):=by grind [goN]
    rw [e0];generalize Wx n pr f t=A at cf hm ⊢;obtain ⟨a,b⟩:=A;simp only at cf hm ⊢;refine X4 cf (Wt ?_);refine cD ?_ ?_<;>intro h4<;>simp (disch:=omega) only [Sh.out h4,go_sem,seval]
    ·have hb:b=false:=by grind
     subst hb;exact we (by simp (disch:=omega) only [go_sem,seval,↓reduceIte])
    ·have hb:b=true:=by grind
     subst hb;refine XR (Wt ?_);refine Zp (oH a τ (hn.2.2 a (hm rfl)) hτ) (Wt ?_);exact we
def Ef (s:Stp) (a:Int):Int×Int:=if max a s.opn>s.cls then (0,14) else (max a s.opn,0)
theorem OQ (s:Stp) (a:Int):PT 304 [.p (Ep s),.p (.int .i64 a)] [.p (.int .i64 (Ef s a).1),.p (.int .i64 (Ef s a).2)]:=by
 refine Zf [] Tryz.func304 rfl ZaY ?_;simp (disch:=omega) only [Tryz.f304,go_sem,seval];refine cD ?_ ?_<;>intro h<;>simp (disch:=omega) only [Sh.out h,go_sem,seval]
 ·have e:Ef s a=(0,14):=by simp_all [Ef]
  rw [e];exact we
 ·have e:Ef s a=(max a s.opn,0):=by simp_all [Ef]
  rw [e];exact we
theorem gC (l:List Ord) (c:Bool) (p:Int) (hl:l.length<=1048576):PC 236 [.p (.list c (l.map eOrd)),.p (.int .i64 p)] (.bool (decide (0<=p)&&decide (p<(l.length:Int)))):=by
 refine Zc Tryz.func236 rfl dU ?_;simp (disch:=omega) only [Tryz.f236,go_sem,seval];refine gT ?_ ?_<;>intro h<;>simp (disch:=omega) only [Sh.out h,go_sem,seval,↓reduceIte]
 all_goals simp [h]
theorem PK (x:Inst) (v:Vis) (ho:x.orders.length<=1048576) (hv:inB x v=true) (hp:0<=(XL x v).place):PT 241 [.p (.list x.orders_c (x.orders.map eOrd)),.p (Xc v)] [.p (Ep (XL x v)),.p (.int .i64 0)]:=by
 refine Zf [] Tryz.func241 rfl Zab ?_;simp (disch:=omega) only [Tryz.f241,go_sem,seval];have hv':=hv;rw [inB] at hv';have ct:=gC x.orders x.orders_c v.order ho;rw [hv'] at ct;refine ct.use ?_;simp only [ZO,Zl] at hv';obtain ⟨h1,h2⟩:=hv'
 have hi:v.order.toNat<x.orders.length:=Za
 refine Wt ?_;refine cD ?_ ?_<;>intro hd<;>simp (disch:=omega) only [Sh.out hd,go_sem,seval,↓reduceIte]
 ·have e:XL x v=(nth x.orders v.order.toNat).drp:=by simp [XL,hd]
  rw [e] at hp ⊢
  have e3: ¬(nth x.orders v.order.toNat).drp.place<0:=Za
  simp (disch:=omega) only [e3,go_sem,seval];exact we
 ·have e:XL x v=(nth x.orders v.order.toNat).pick:=by simp [XL,hd]
  rw [e] at hp ⊢
  have e3: ¬(nth x.orders v.order.toNat).pick.place<0:=Za
  simp (disch:=omega) only [e3,go_sem,seval];exact we
theorem oJ (l:List Typ) (c:Bool) (ht:l.length<=1048576):PC 291 [.p (.list c (l.map Uf))] (.int .i64 (dimsOf l)):=by
 refine Zc Tryz.func291 rfl ZaL ?_;simp (disch:=omega) only [Tryz.f291,go_sem,seval];refine cD ?_ ?_<;>intro h1<;>simp (disch:=omega) only [Sh.out h1,go_sem,seval,↓reduceIte]
 ·grind [dimsOf]
 simp_all [dimsOf]
theorem oL (a b:List Int) (c d:Bool) (ha:a.length<=1048576) (hb:b.length<=1048576):PC 268 [.p (.list c (a.map eI)),.p (.list d (b.map eI))] (.bool (U1 a b)):=by
 refine Zc Tryz.func268 rfl Zas ?_;simp (disch:=omega) only [Tryz.f268,go_sem,seval];refine cD ?_ ?_<;>intro h1<;>simp (disch:=omega) only [Sh.out h1,go_sem,seval]
 ·grind [U1]
 ·have h1':a.length=b.length:=Za
  refine Zk [1,12,13] (fun k:Nat=> [(14,.p (.int .i64 k))]) (fun _=> []) (fun k=>k<=a.length/\ ∀j,j<k->nth a j<=nth b j) (fun k=>a.length-k) 0 Zb (Weak.mk ?_) ?_
  ·simp (disch:=omega) only [go_sem,seval]
  ·rintro k ⟨hk,hno⟩;refine Wt ?_;refine cD ?_ ?_<;>intro h2<;>simp (disch:=omega) only [Sh.out h2,go_sem,seval,↓reduceIte]
   ·have hk2:k<a.length:=Za
    refine ZN ?_ ?_<;>intro h3
    ·grind [U1]
    ·exact ⟨k+1,⟨Za,Zm.2 ⟨hno,Za⟩⟩,Za,wk⟩
   ·have hkl:k=a.length:=Za
    simp_all [U1]
theorem oG (t:Typ) (s:Int) (h1:t.skills<9223372036854775808) (h2:s<9223372036854775808):PC 264 [.p (Uf t),.p (.int .i64 s)] (.bool (WD t s)):=by
 refine Zc Tryz.func264 rfl Zao ?_;simp (disch:=omega) only [Tryz.f264,go_sem,seval];refine gT ?_ ?_<;>intro c1<;>simp (disch:=omega) only [Sh.out c1,go_sem,seval,↓reduceIte]
 ·refine gT ?_ ?_<;>intro c2<;>simp (disch:=omega) only [Sh.out c2,go_sem,seval,↓reduceIte]
  ·obtain ⟨M,hM⟩: ∃M:Nat,t.skills=(M:Int):=⟨t.skills.toNat,Za⟩;obtain ⟨S,rfl⟩: ∃S:Nat,s=(S:Int):=⟨s.toNat,Za⟩;have hb:=C6 (S:=S) (M:=M) Za
   have e:WD t (S:Int)=(List.range 63).all fun i=> !S.testBit i||M.testBit i:=by
    simp_all [WD]
   have hd:decide (IntKind.i64.wrap ((BitVec.ofInt 64 (S:Int)&&& ~~~BitVec.ofInt 64 (M:Int)).toNat:Int)=0)=((List.range 63).all fun i=> !S.testBit i||M.testBit i):=by
    grind
   rw [e,hM];exact XC (fun b=>V.p (PV.bool b)) hd
  grind [WD]
 grind [WD]
theorem ZbQ (a b:Int) (h: -1073741824<=a/\a<=1073741824/\ -1073741824<=b/\b<=1073741824):PC 310 [.p (.int .i64 a),.p (.int .i64 b)] (.int .i64 (a+b)):=by
 refine Zc Tryz.func310 rfl Za3 ?_;simp (disch:=omega) only [Tryz.f310,go_sem,seval]
theorem nS (a b:Int) (h: -1073741824<=a/\a<=1073741824/\ -1073741824<=b/\b<=1073741824):PC 311 [.p (.int .i64 a),.p (.int .i64 b)] (.int .i64 (a-b)):=by
 refine Zc Tryz.func311 rfl Za4 ?_;simp (disch:=omega) only [Tryz.f311,go_sem,seval]
def TG (f:Nat->Int) (n k:Nat):List Int:=(List.range n).map fun j=>if j<k then f j else 0
theorem nT {f:Nat->Int} {n k:Nat} :(TG f n k).length=n:=by simp [TG]
theorem eY {f:Nat->Int} {n:Nat} :TG f n 0=List.replicate n 0:=by
 apply VE (by simp [TG]);grind [TG]
theorem eX {f:Nat->Int} {n:Nat} :TG f n n=(List.range n).map f:=by
 simp_all [TG]
theorem nU {f:Nat->Int} {n k:Nat} (h:k<n):(TG f n k).set k (f k)=TG f n (k+1):=by
 apply VE (by simp [TG]);grind [TG]
theorem Gc (a b:List Int) (c d:Bool) (g:FuncId) (f:Int->Int->Int) (hl:a.length=b.length) (ha:a.length<=1048576)
  (hf: ∀j,j<a.length->ACalls Tryz.prog g [.p (.int .i64 (nth a j)),.p (.int .i64 (nth b j))] [] fun x H'=>x= .p (.int .i64 (f (nth a j) (nth b j)))/\H'= []) :
  PT 309 [.p (.list c (a.map eI)),.p (.list d (b.map eI)),.fn (.func g) [] []] [.p (.list false (((List.range a.length).map fun j=>f (nth a j) (nth b j)).map eI)),.p (.int .i64 0)]:=by
 refine Zf [9] Tryz.func309 rfl Za2 ?_;simp (disch:=omega) only [Tryz.f309,go_sem,seval];refine cD ?_ ?_<;>intro h0<;>simp (disch:=omega) only [Sh.out h0,go_sem,seval]
 ·omega
 ·have hz:=eY (f:=fun j=>f (nth a j) (nth b j)) (n:=a.length);have hml:=fun k=>nT (f:=fun j=>f (nth a j) (nth b j)) (n:=a.length) (k:=k);refine Xe [9] [0,1,2,8,19] (fun k:Nat=> [(20,.p (.int .i64 k))]) (fun k=> [.elems 1 ((TG (fun j=>f (nth a j) (nth b j)) a.length k).map eI)]) (fun k=>k<=a.length) (fun k=>a.length-k) 0 Zb (Weak.mk ?_) ?_
  ·simp (disch:=omega) only [hz,go_sem,seval];rw [DG];rfl
  ·intro k hk;refine Wt ?_;refine cD ?_ ?_<;>intro h1<;>simp (disch:=omega) only [Sh.out h1,go_sem,seval,↓reduceIte]
   ·have hk2:k<a.length:=Za
    have hs:=nU (f:=fun j=>f (nth a j) (nth b j)) (n:=a.length) hk2;have hk3:=hml k;refine Z4 12 mixed Zd Zd ?_;refine Wt ?_;refine Zp (hf k hk2) ?_;refine Wt ?_;simp (disch:=first | omega | (simp only [ZH,Zw,Zn,Zx,ZC,ZK]<;>omega)) only [go_sem,seval,↓reduceIte];refine ⟨k+1,Za,Za,Weak.mk ?_⟩;simp (disch:=omega) only [<- hs,go_sem,seval];rw [Uh];rfl
   ·have hkl:k=a.length:=Za
    subst hkl;rw [<- eX];have hk3:=hml a.length;refine Zs (Weak.fz (o:=0) (by rfl)) ?_;refine Zg [] _ _ _ _ ?_;simp (disch:=omega) only [Zu,Zo,Yf,go_sem,seval];rw [if_pos hk3];exact we
theorem fU (a b:List Int) (c d:Bool) (hl:a.length=b.length) (ha:a.length<=1048576) (h: ∀j,j<a.length-> -1073741824<=nth a j/\nth a j<=1073741824/\ -1073741824<=nth b j/\nth b j<=1073741824):PT 292 [.p (.list c (a.map eI)),.p (.list d (b.map eI))] [.p (.list false ((D2 a b).map eI)),.p (.int .i64 0)]:=by
 refine Zf [] Tryz.func292 rfl ZaM ?_;simp (disch:=omega) only [Tryz.f292,go_sem,seval];refine X4 (Gc a b c d 310 (fun m n=>m+n) hl ha fun j hj=>ZbQ _ _ (h j hj)) ?_;simp (disch:=omega) only [D2,go_sem,seval];exact we
theorem ZbL (a b:List Int) (c d:Bool) (hl:a.length=b.length) (ha:a.length<=1048576) (h: ∀j,j<a.length-> -1073741824<=nth a j/\nth a j<=1073741824/\ -1073741824<=nth b j/\nth b j<=1073741824):PT 293 [.p (.list c (a.map eI)),.p (.list d (b.map eI))] [.p (.list false ((pS a b).map eI)),.p (.int .i64 0)]:=by
 refine Zf [] Tryz.func293 rfl ZaN ?_;simp (disch:=omega) only [Tryz.f293,go_sem,seval];refine X4 (Gc a b c d 311 (fun m n=>m-n) hl ha fun j hj=>nS _ _ (h j hj)) ?_;simp (disch:=omega) only [pS,go_sem,seval];exact we
theorem fY (x:Inst) (r:Rte) (ht:0<=r.typ/\r.typ<(x.types.length:Int)) (hv: ∀v∈r.visits,inB x v=true) (hl:r.visits.length<=1048576) (hxl:x.types.length<=1048576) (hol:x.orders.length<=1048576)
  (hs:(ZW x r).skills<9223372036854775808) (ho: ∀o∈x.orders,o.skills<9223372036854775808) :
  PC 219 [.p (ZG x),.p (Wc r)] (.int .i64 (if (r.visits.any fun v=> !WD (ZW x r) (nth x.orders v.order.toNat).skills)=true then 18 else 0)):=by
 refine Zc Tryz.func219 rfl zH ?_;simp (disch:=omega) only [Tryz.f219,go_sem,seval];refine Zk [2,3,8,9] (fun k:Nat=> [(10,.p (.int .i64 k))]) (fun _=> [Zj x,.cells [.p (.int .i64 r.typ),.p (.int .i64 r.start),.p (.list r.rests_c (r.rests.map eB)),.p (.list r.visits_c (r.visits.map Xc))]]) (fun k=>k<=r.visits.length/\ ∀j,j<k->WD (ZW x r) (nth x.orders (nth r.visits j).order.toNat).skills=true) (fun k=>r.visits.length-k) 0 Zb (Weak.mk ?_) ?_
 ·simp (disch:=omega) only [Zj,go_sem,seval]
 ·rintro k ⟨hk,hno⟩;refine Wy ?_;refine cD ?_ ?_<;>intro h1<;>simp (disch:=omega) only [Sh.out h1,go_sem,seval,↓reduceIte]
  ·have hk2:k<r.visits.length:=Za
   have hin:=hv _ (ZD hk2);simp only [inB,ZO,Zl] at hin;obtain ⟨i1,i2⟩:=hin
   have hi:(nth r.visits k).order.toNat<x.orders.length:=Za
   have ho':=ho _ (ZD hi);refine XR (Wt ?_);refine Zp (oG (ZW x r) (nth x.orders (nth r.visits k).order.toNat).skills Za Za) (Wt ?_);refine ZN ?_ ?_<;>intro h2
   ·have:(r.visits.any fun v=> !WD (ZW x r) (nth x.orders v.order.toNat).skills)=true:=by
     grind [ZD]
    grind
   ·exact ⟨k+1,⟨Za,Zm.2 ⟨hno,by grind⟩⟩,Za,wk⟩
  ·have: ¬(r.visits.any fun v=> !WD (ZW x r) (nth x.orders v.order.toNat).skills)=true:=by
    rw [UM];rintro ⟨v,hv,e⟩;obtain ⟨j,hj,rfl⟩:=ZP.1 hv
    grind [Ze]
   grind
def P2 (x:Inst) (d:Nat) (ms:List Int) (k:Nat):List Int:=(ms.take k).foldl (fun s i=>if (nth x.orders i.toNat).pick.place<0 then D2 s (nth x.orders i.toNat).load else s) (List.replicate d 0)
theorem MD {x:Inst} {d:Nat} {ms:List Int} {k:Nat} (h:k<ms.length):P2 x d ms (k+1)=if (nth x.orders (nth ms k).toNat).pick.place<0 then D2 (P2 x d ms k) (nth x.orders (nth ms k).toNat).load else P2 x d ms k:=by
 grind [P2,Xo,Ze]
theorem P3 {x:Inst} {d:Nat} {ms:List Int} (hms: ∀i∈ms,∀j,j<d->0<=nth (nth x.orders i.toNat).load j/\nth (nth x.orders i.toNat).load j<=1000): ∀k,k<=ms.length->(P2 x d ms k).length=d/\ ∀j,j<d->0<=nth (P2 x d ms k) j/\nth (P2 x d ms k) j<=1000*k
 | 0,_=>by
  grind [P2,Ze]
 | k+1,h=>by
  obtain ⟨h1,h2⟩:=P3 hms k Za;rw [MD Za]
  split
  ·refine ⟨by simp [D2,h1],fun j hj=> ?_⟩;have a1:=h2 j hj;have a2:=hms _ (ZD (show k<ms.length by omega)) j hj;rw [D2,Kn Za];omega
  ·exact ⟨h1,fun j hj=>by have:=h2 j hj;omega⟩
theorem pR (x:Inst) (S:Int) (d:Nat) (hd:d<=3) (hol:x.orders.length<=1048576) (hms: ∀i∈XQ S 63,0<=i/\i<(x.orders.length:Int)) (hml:(XQ S 63).length<=63)
  (hld: ∀o∈x.orders,o.load.length=d/\ ∀n∈o.load,0<=n/\n<=1000) :
  PC 290 [.p (ZG x),.p (.int .i64 S),.p (.int .i64 (d:Int))] (.list false ((P2 x d (XQ S 63) (XQ S 63).length).map eI)):=by
 have hmo: ∀i∈XQ S 63,i.toNat<x.orders.length:=fun i hi=>by grind
 have hrg:=P3 (x:=x) (d:=d) (ms:=XQ S 63) fun i hi j hj=>by
  grind [ZD]
 refine Zc Tryz.func290 rfl ZaK ?_;simp (disch:=omega) only [Tryz.f290,go_sem,seval];refine (CG S).useF (Wt ?_);refine Zs ((Weak.fz (o:=1) (by rfl)).trans (Weak.fz (o:=2) (by rfl))) ?_;simp (disch:=omega) only [Zu,Zo,Xr,Yf,List.length_replicate,eq_self,go_sem,seval]
 have hz:List.replicate d (PV.int .i64 0)=(P2 x d (XQ S 63) 0).map eI:=by
  show _=(List.replicate d 0).map eI
  rw [DG];rfl
 refine Zk [3,13,14] (fun k:Nat=> [(7,.p (.list false ((P2 x d (XQ S 63) k).map eI))),(15,.p (.int .i64 k))]) (fun _=> [Zj x,.dead,.dead]) (fun k=>k<=(XQ S 63).length) (fun k=>(XQ S 63).length-k) 0 Zb (Weak.mk ?_) ?_
 ·simp (disch:=omega) only [Zj,hz,go_sem,seval]
 ·intro k hk;have hk1:=hrg k hk;have hsn:=fun h=>MD (x:=x) (d:=d) (ms:=XQ S 63) (k:=k) h;refine Wy ?_;refine cD ?_ ?_<;>intro h1<;>simp (disch:=omega) only [Sh.out h1,go_sem,seval,↓reduceIte]
  ·have hk2:k<(XQ S 63).length:=Za
   have hm:=hms _ (ZD hk2);have hi:=hmo _ (ZD hk2);have hlo:=hld _ (ZD hi);have hsn:=hsn hk2;refine Wt ?_;refine ZN ?_ ?_<;>intro h2
   ·rw [if_pos h2] at hsn;refine X4 (fU (P2 x d (XQ S 63) k) (nth x.orders (nth (XQ S 63) k).toNat).load false (nth x.orders (nth (XQ S 63) k).toNat).load_c Za Za fun j hj=> ?_) ?_
    ·have b1:=hk1.2 j Za;have b2:=hlo.2 _ (ZD (show j<(nth x.orders (nth (XQ S 63) k).toNat).load.length by omega));omega
    ·refine Wt ?_;exact ⟨k+1,Za,Za,Weak.mk (by simp (disch:=omega) only [hsn,go_sem,seval])⟩
   ·rw [if_neg h2] at hsn;exact ⟨k+1,Za,Za,Weak.mk (by simp (disch:=omega) only [hsn,go_sem,seval])⟩
  grind
theorem NF {p:Nat->Bool} {n:Nat} (h: ∀i,n<=i->p i=false): ∀k,n<=k->(List.range k).filter p=(List.range n).filter p:=by
 intro k hk
 induction k with
 | zero=>grind
 | succ k ih =>
  grind [Yx]
theorem ZhR {x:Inst} {l:List Vis} (hi:Inr x l) (hn:x.orders.length<=10):XQ ((Z8 l:Nat):Int) 63=((List.range x.orders.length).filter fun (i:Nat)=>hasO l (i:Int)).map fun (i:Nat)=>(i:Int):=by
 have key: ∀i:Nat,i<=62->sHas ((Z8 l:Nat):Int) (i:Int)=hasO l (i:Int):=fun i h=>by
  rw [Wk _ _ h,YO,BT,Xj]
  constructor
  ·rintro ⟨v,hv,e⟩;exact ⟨v,hv,by have:=hi v hv;omega⟩
  grind
 unfold XQ;rw [U7 (q:=fun (i:Nat)=>hasO l (i:Int)) (fun i hm=>key i (by grind)),NF (n:=x.orders.length) (fun i h=> ?_) 63 Za]
 cases hh:hasO l (i:Int) with
 | false=>rfl
 | true =>
  obtain ⟨v,hv,e⟩:=Xj.1 hh;have:=hi v hv;omega
theorem cZ {x:Inst} {d:Nat} : ∀(L:List Nat) (g:Nat->Int),(L.map fun (i:Nat)=>(i:Int)).foldl (fun s (i:Int)=>if (nth x.orders i.toNat).pick.place<0 then D2 s (nth x.orders i.toNat).load else s) ((List.range d).map g)=(List.range d).map fun j=>g j+(L.map fun i=>if (nth x.orders i).pick.place<0 then nth (nth x.orders i).load j else 0).sum
 | [],g=>Zb
 | i::L,g=>by
  rw [Zu,Yp,X6]
  by_cases h:(nth x.orders i).pick.place<0
  ·have e:D2 ((List.range d).map g) (nth x.orders i).load=(List.range d).map fun j=>g j+nth (nth x.orders i).load j:=by
    grind [D2,YG,Kn]
   rw [if_pos h,e,cZ L]
   grind
  ·rw [if_neg h,cZ L]
   grind
theorem Ti {x:Inst} {l:List Vis} (hi:Inr x l) (hn:x.orders.length<=10):P2 x (dimsOf x.types).toNat (XQ ((Z8 l:Nat):Int) 63) (XQ ((Z8 l:Nat):Int) 63).length=Wa x l 0:=by
 rw [P2,X7,ZhR hi hn];have:=cZ (x:=x) (d:=(dimsOf x.types).toNat) ((List.range x.orders.length).filter fun (i:Nat)=>hasO l (i:Int)) fun _=>0
 have e:(List.range (dimsOf x.types).toNat).map (fun _=>(0:Int))=List.replicate (dimsOf x.types).toNat 0:=by
  simp_all [List.map_const']
 rw [e] at this;rw [this,Wa];refine YG fun j _=> ?_;rw [BF,JK,Dv]
 congr 1
 refine YG fun i _=> ?_
 grind [fM]
theorem iX {x:Inst} {l:List Vis} {n j:Nat} {d:Nat} (hj:j<d) (hld: ∀o∈x.orders,o.load.length=d/\ ∀n∈o.load,0<=n/\n<=1000) (hn:x.orders.length<=10):0<=Dv x l n j/\Dv x l n j<=10000:=by
 have key:=P5 (f:=fun i=>if i<x.orders.length then (if (FP x l n i&&hasO l i)=true then nth (nth x.orders i).load j else 0) else 0) (b:=1000) Za (fun q=>by
  grind [ZD]) x.orders.length
 have e:Dv x l n j=((List.range x.orders.length).map fun i=>if i<x.orders.length then (if (FP x l n i&&hasO l i)=true then nth (nth x.orders i).load j else 0) else 0).sum:=by
  simp_all [Dv,YG]
 omega
theorem T0 {x:Inst} {l:List Vis} {n j:Nat} (hj:j<(dimsOf x.types).toNat) (hd:LdOk x):0<=nth (Wa x l n) j/\nth (Wa x l n) j<=10000:=by
 rw [Wa,Kn hj];exact iX hj (fun o ho=>by obtain ⟨h1,h2⟩:=hd.load o ho;grind) hd.ord
def sR {α:Type} (f:α->Bool) (l:List α):Int:=match l.findIdx? f with | some i=>(i:Int) | none=> -1
theorem dF {α:Type} [Inhabited α] {f:α->Bool} {l:List α} {k:Nat} (hk:k<l.length) (h:f (nth l k)=true) (hno: ∀j,j<k->f (nth l j)=false):sR f l=(k:Int):=by
 have:l.findIdx? f=some k:=by
  grind [VY,Ze]
 simp [sR,this]
theorem dH {α:Type} [Inhabited α] {f:α->Bool} {l:List α} (hno: ∀j,j<l.length->f (nth l j)=false):sR f l= -1:=by
 have:l.findIdx? f=none:=by
  rw [List.findIdx?_eq_none_iff];intro x hx;obtain ⟨j,hj,rfl⟩:=ZP.1 hx
  grind [Ze]
 simp [sR,this]
theorem dG {α:Type} {f:α->Bool} {l:List α} :decide (0<=sR f l)=l.any f:=by
 grind [sR]
theorem Sf (l:List (List Int)) (c:Bool) (g:FuncId) (caps:List V) (H:List AM.Obj) (f:List Int->Bool) (hl:l.length<=1048576) (hW:MV H H.length H H) (hc:Xd H.length caps=true)
  (hg: ∀v∈l,ACalls Tryz.prog g (.p (jY v)::caps) H fun x H'=>x= .p (.bool (f v))/\H'=H) :
  ACalls Tryz.prog 294 [.p (.list c (l.map jY)),.fn (.func g) [] caps] H fun x H'=>x= .p (.int .i64 (sR f l))/\H'=H:=by
 refine Yc Tryz.func294 rfl ZaO (Zg [] _ _ _ _ ?_);simp (disch:=omega) only [Tryz.f294,go_sem,seval];refine Zk [0,1,7] (fun k:Nat=> [(8,.p (.int .i64 k))]) (fun _=>H) (fun k=>k<=l.length/\ ∀j,j<k->f (nth l j)=false) (fun k=>l.length-k) 0 Zb (Weak.mk ?_) ?_
 ·simp (disch:=omega) only [hW,hc,go_sem,seval];simp
 ·rintro k ⟨hk,hno⟩;refine Wt ?_;refine cD ?_ ?_<;>intro h<;>simp (disch:=omega) only [Sh.out h,go_sem,seval,↓reduceIte]
  ·have hk2:k<l.length:=Za
   have hgk:=hg (nth l k) (Zq hk2);simp (disch:=omega) only [wK,go_sem,seval] at hgk;refine hgk.useH (Wt ?_);refine cD ?_ ?_<;>intro h2<;>simp (disch:=omega) only [Sh.out h2,go_sem,seval,↓reduceIte]
   ·grind [dF]
   ·have h3:f (nth l k)=false:=Za
    refine ⟨k+1,⟨Za,Zm.2 ⟨hno,h3⟩⟩,Za,Weak.mk ?_⟩;simp (disch:=omega) only [hW,hc,go_sem,seval];simp
  grind [dH]
theorem HF (l:List (List Int)) (c:Bool) (g:FuncId) (caps:List V) (H:List AM.Obj) (f:List Int->Bool) (hl:l.length<=1048576) (hW:MV H H.length H H) (hc:Xd H.length caps=true)
  (hg: ∀v∈l,ACalls Tryz.prog g (.p (jY v)::caps) H fun x H'=>x= .p (.bool (f v))/\H'=H) :
  ACalls Tryz.prog 266 [.p (.list c (l.map jY)),.fn (.func g) [] caps] H fun x H'=>x= .p (.bool (l.any f))/\H'=H:=by
 refine Yc Tryz.func266 rfl Zaq (Zg [] _ _ _ _ ?_);simp (disch:=omega) only [Tryz.f266,go_sem,seval];refine (Sf l c g caps H f hl hW hc hg).useH (Wt ?_);rw [dG]
theorem gA (x:Inst) (r:Rte) (hx:InstOk x) (hl:r.visits.length<=1048576):PC 218 [.p (ZG x),.p (Wc r)] (.int .i64 (Xl x r.visits)):=by
 have hf:=XY hx;obtain ⟨h1,h2⟩:=Qs.1 hx.rules
 have ha:x.apart.length<=1048576:=by
  have h3:=(Qs.1 h1).1
  grind [M1]
 have hb:x.before.length<=1048576:=by
  have h3:=(Qs.1 h2).1
  grind [M1]
 exact Zh7 x r (by have:=hf.len;omega) hl ha hb
theorem oF {x:Inst} {l:List Vis} (hi:Inr x l) (hn:x.orders.length<=10):JF l=(((Z8 l:Nat):Int),0):=by
 rw [JF,if_pos];rw [Zv];intro v hv;have:=hi v hv;simp [FK];omega
theorem Zox {α:Type} (f:Nat->α) (n:Nat):(List.range n).map f++ [f n]=(List.range (n+1)).map f:=by grind [Yx]
theorem fX (x:Inst) (r:Rte) (hx:InstOk x) (hl:r.visits.length<=1048576) (h0:Xl x r.visits=0) :
  PT 265 [.p (ZG x),.p (Wc r)] [.p (.list false ((Qa x r.visits).map jY)),.p (.int .i64 0)]:=by
 have hd:=U3 hx;have hsq:=Um h0;have hol:=hd.ord;have hso:=Mw r hl;rw [oF hsq.inr hol] at hso
 have hD:dimsOf x.types=((dimsOf x.types).toNat:Int):=by have:=hd.dim;omega
 have cd:=oJ x.types x.types_c hd.typ;rw [hD] at cd;have hst:=Ti hsq.inr hol
 have hmem: ∀i∈XQ ((Z8 r.visits:Nat):Int) 63,0<=i/\i<(x.orders.length:Int):=fun i hi=>by
  rw [ZhR hsq.inr hol] at hi
  grind
 have cs:=pR x ((Z8 r.visits:Nat):Int) (dimsOf x.types).toNat (by have:=hd.dim;omega) Za hmem (BM _ _) (fun o ho=>by have:=hd.load o ho;grind);rw [hst] at cs;refine Zf [20] Tryz.func265 rfl Zap ?_;simp (disch:=omega) only [Tryz.f265,go_sem,seval];refine (gA x r hx hl).use (Wt ?_);simp (disch:=omega) only [h0,go_sem,seval];refine X4 hso (Wt ?_);refine XR (Wt ?_);refine Zp (cd) (Wt ?_);refine Zp (cs) (Wt ?_);refine Xe [20] [2,37,38] (fun q:Nat×List (List Int)=> [(9,.p (.list false ((Wa x r.visits q.1).map eI))),(10,.sl 2 0 q.2.length q.2.length),(39,.p (.int .i64 q.1))]) (fun q=> [Zj x,Xb r,.elems 1 (q.2.map jY)]) (fun q=>q.1<=r.visits.length/\q.2=(List.range (q.1+1)).map (Wa x r.visits)) (fun q=>r.visits.length-q.1) (0,[Wa x r.visits 0]) Zb (Weak.mk ?_) ?_
 ·simp (disch:=omega) only [Zj,Xb,Zo,Zu,Zw,ZH,go_sem,seval]
 ·rintro ⟨k,o⟩ ⟨hk,ho⟩;simp only at hk ho
  have hol2:o.length=k+1:=by rw [ho];simp
  refine Dk ?_;refine cD ?_ ?_<;>intro h1<;>simp (disch:=omega) only [Sh.out h1,go_sem,seval,↓reduceIte]
  ·have hk2:k<r.visits.length:=Za
   obtain ⟨v1,v2⟩:=hsq.inr _ (Zq hk2)
   have hi:(nth r.visits k).order.toNat<x.orders.length:=Za
   obtain ⟨l1,l2⟩:=hd.load _ (ZD hi);have hsu:=Rn hsq hk2;have hal:=D4 (x:=x) (l:=r.visits) (n:=k);have hdm:=hd.dim
   have hrg: ∀j,j<(Wa x r.visits k).length-> -1073741824<=nth (Wa x r.visits k) j/\nth (Wa x r.visits k) j<=1073741824/\ -1073741824<=nth (nth x.orders (nth r.visits k).order.toNat).load j/\nth (nth x.orders (nth r.visits k).order.toNat).load j<=1073741824:=fun j hj=>by
    have b1:=T0 (x:=x) (l:=r.visits) (n:=k) (j:=j) Za hd
    grind [ZD]
   refine cD ?_ ?_<;>intro h2<;>simp (disch:=omega) only [Sh.out h2,go_sem,seval,↓reduceIte]
   ·rw [if_pos h2] at hsu;refine X4 (ZbL (Wa x r.visits k) (nth x.orders (nth r.visits k).order.toNat).load false (nth x.orders (nth r.visits k).order.toNat).load_c Za Za hrg) (Wt ?_);exact ⟨(k+1,o++ [Wa x r.visits (k+1)]),⟨Za,by grind⟩,Za,Weak.mk (by simp (disch:=omega) only [hsu,Zn,ZH,Zw,X0,Zu,Zo,go_sem,seval])⟩
   ·rw [if_neg (by rw [h2];simp)] at hsu;refine X4 (fU (Wa x r.visits k) (nth x.orders (nth r.visits k).order.toNat).load false (nth x.orders (nth r.visits k).order.toNat).load_c Za Za hrg) (Wt ?_);exact ⟨(k+1,o++ [Wa x r.visits (k+1)]),⟨Za,by grind⟩,Za,Weak.mk (by simp (disch:=omega) only [hsu,Zn,ZH,Zw,X0,Zu,Zo,go_sem,seval])⟩
  ·have hkl:k=r.visits.length:=Za
   subst hkl;refine Zs (Weak.fz (o:=2) (by rfl)) (Zg [] _ _ _ _ (AE ?_));rw [Qa,<- ho];exact we
theorem nA (x:Inst) (r:Rte) (a:List Int) (htl:x.types.length<=1048576) (hty:0<=r.typ/\r.typ<(x.types.length:Int)) (ha:a.length<=1048576) (hc:(ZW x r).cap.length<=1048576) :
  ACalls Tryz.prog 267 [.p (jY a),.ptr 0 0,.ptr 1 0] [Zj x,Xb r] fun y H'=>y= .p (.bool (!U1 a (ZW x r).cap))/\H'= [Zj x,Xb r]:=by
 have hti:r.typ.toNat<x.types.length:=Za
 refine Zf [] Tryz.func267 rfl Zar ?_;simp (disch:=omega) only [Tryz.f267,Zj,Xb,go_sem,seval];refine (oL a (ZW x r).cap false (ZW x r).cap_c ha hc).use (Wt ?_);exact we
theorem fV (x:Inst) (r:Rte) (hx:InstOk x) (hl:r.visits.length<=1048576) (hty:0<=r.typ/\r.typ<(x.types.length:Int)) (h0:Xl x r.visits=0) :
  PC 220 [.p (ZG x),.p (Wc r)] (.int .i64 (if U9 x (ZW x r).cap r.visits=true then 0 else 17)):=by
 have hd:=U3 hx;have htl:=hd.typ
 have hti:r.typ.toNat<x.types.length:=Za
 have hcp:(ZW x r).cap.length<=1048576:=by
  have hcap:=hx.types.2 _ hti;unfold AG at hcap;obtain ⟨⟨⟨⟨⟨⟨⟨⟨_,_⟩,_⟩,_⟩,hcap⟩,_⟩,_⟩,_⟩,_⟩:=hcap;simp only [Uz,ZO,Zl,rng] at hcap;unfold ZW;omega
 have hll:(Qa x r.visits).length=r.visits.length+1:=by simp [Qa]
 have hvl:=(Um h0).len hd.ord
 have hall:(Qa x r.visits).any (fun a=> !U1 a (ZW x r).cap)= !U9 x (ZW x r).cap r.visits:=by
  grind [U9,Qa]
 have e1: ¬r.typ<0:=Za
 have e2: ¬(x.types.length:Int)<=r.typ:=Za
 refine Zc Tryz.func220 rfl zJ ?_;simp (disch:=omega) only [Tryz.f220,e1,e2,go_sem,seval];refine X4 (fX x r hx hl h0) (Wt ?_);refine (HF (Qa x r.visits) false 267 [.ptr 0 0,.ptr 1 0] [Zj x,Xb r] (fun a=> !U1 a (ZW x r).cap) Za (by simp (disch:=omega) only [Zj,Xb,go_sem,seval]) (by rfl) (fun a ha=>nA x r a htl hty ?_ hcp)).useH ?_
 ·obtain ⟨j,_,rfl⟩:=Xg.1 ha;rw [D4];have:=hd.dim;omega
 ·refine Dk ?_;rw [hall];refine cD ?_ ?_<;>intro h1<;>simp (disch:=omega) only [Sh.out h1,go_sem,seval]
  ·grind
  grind
def FL (x:Inst) (o n:Nat):List V:= [.p (.list x.net.places_c (x.net.places.map eS)),.p (.list x.net.arcs_c (x.net.arcs.map Ud)),.p (.list x.types_c (x.types.map Uf)),.sl o 0 n n,.p (.list x.apart_c (x.apart.map eP)),.p (.list x.before_c (x.before.map eP))]
def ID (x:Inst) (k:Nat):List Ord:=Qz (fun j=>if j<k then FI x j else nth x.orders j) x.orders.length
theorem Pc {x:Inst} {k:Nat} :(ID x k).length=x.orders.length:=WM
theorem Lw {x:Inst} :ID x 0=x.orders:=(JH fun j _=>by rfl).trans S5
theorem Pb {x:Inst} :ID x x.orders.length=Qz (FI x) x.orders.length:=JH fun j hj=>by grind
theorem Pd {x:Inst} {k:Nat} (h:k<x.orders.length):nth (ID x k) k=nth x.orders k:=by simp_all [ID,Kw]
theorem nF {x:Inst} {k:Nat} :(ID x k).set k (FI x k)=ID x (k+1):=by
 rw [ID,Mj];refine JH fun i _=> ?_
 grind
theorem Pe (x:Inst) (ho:x.orders.length<=1048576):ACalls Tryz.prog 35 [.p (ZG x)] [] fun y H'=>y= .agg (FL x 2 x.orders.length)/\H'= [.cells (FL x 2 x.orders.length),.cells (FL x 2 x.orders.length),.elems 16 ((Qz (FI x) x.orders.length).map eOrd)]:=by
 refine Zf [2] Tryz.func35 rfl Zhj ?_;simp (disch:=omega) only [Tryz.f35,go_sem,seval];refine U0 (DB 3 rfl rfl (Wt ?_))
 have h1: ∀q∈x.orders.map eOrd,q.cells.length=16/\ ∀z∈q.cells,z.one=true:=fun q hq=>by
  obtain ⟨o,_,rfl⟩:=Xg.1 hq;exact ⟨rfl,fun z hz=>by simp [eOrd,PV.cells] at hz;rcases hz with rfl | rfl | rfl | rfl | rfl | rfl | rfl | rfl | rfl | rfl | rfl | rfl | rfl | rfl | rfl | rfl<;>rfl⟩
 have key: ∀z:PV,x.orders= []->List.replicate x.orders.length z=(ID x 0).map eOrd:=fun z h=>by rw [Lw,h];rfl
 have key2:x.orders.map eOrd=(ID x 0).map eOrd:=by rw [Lw]
 by_cases h0:x.orders= []
 ·refine ⟨_,_,GF (e:=59) (S:=16) rfl Tryz.underlying40 Zd rfl rfl rfl Zb (.inl (by rw [h0];rfl)),?_⟩;refine Zg [] _ _ _ _ ?_;simp (disch:=first | omega | (simp only [ZH,Zw,Zn,Zx,ZC,ZK]<;>omega)) only [eq_self,List.length_replicate,go_sem,seval,↓reduceIte];refine Zk [1,2,3,14] (fun k:Nat=> [(15,.p (.int .i64 k))]) (fun k=> [Zj x,.cells (List.replicate 6 (.p (.list true []))),.elems 16 ((ID x k).map eOrd)]) (fun k=>k<=x.orders.length) (fun k=>x.orders.length-k) 0 Zb (Weak.mk ?_) ?_
  ·simp (disch:=omega) only [Zj,List.replicate,go_sem,seval]
   grind
  ·intro k hk;have hrl:=Pc (x:=x) (k:=k);simp (disch:=first | omega | (simp only [ZH,Zw,Zn,Zx,ZC,ZK]<;>omega)) only [Zj,List.replicate,eq_self,go_sem,seval];refine cD ?_ ?_<;>intro h2<;>simp (disch:=omega) only [Sh.out h2,hrl,go_sem,seval,↓reduceIte]
   ·have hk2:k<x.orders.length:=Za
    have hnk:=Pd hk2
    have he:QC ((ID x k).map eOrd) k=eOrd (nth x.orders k):=by grind
    have ZE:((ID x k).map eOrd).set k (eOrd (FI x k))=(ID x (k+1)).map eOrd:=by grind
    simp only [HJ,FI] at ZE;simp (disch:=first | omega | (simp only [ZH,Zw,Zn,Zx,ZC,ZK]<;>omega)) only [hrl,eq_self,go_sem,seval];exact ⟨k+1,Za,Za,Weak.mk (by simp (disch:=omega) only [hnk,ZE,go_sem,seval])⟩
   ·have hkl:k=x.orders.length:=Za
    subst hkl;rw [Pb];exact ⟨_,_,Weak.refl _ _ _,rfl,rfl⟩
 ·have hl0:0<x.orders.length:=List.length_pos_iff.2 h0;refine ⟨_,_,GE (e:=59) (S:=16) rfl Tryz.underlying40 Zd Za rfl rfl rfl Zb Zb (by grind) h1,?_⟩;rw [Jt Zb,Qu];refine Zg [] _ _ _ _ ?_;simp (disch:=first | omega | (simp only [ZH,Zw,Zn,Zx,ZC,ZK]<;>omega)) only [eq_self,Xr,Yf,go_sem,seval,↓reduceIte];refine Zk [1,2,3,14] (fun k:Nat=> [(15,.p (.int .i64 k))]) (fun k=> [Zj x,.cells (List.replicate 6 (.p (.list true []))),.elems 16 ((ID x k).map eOrd)]) (fun k=>k<=x.orders.length) (fun k=>x.orders.length-k) 0 Zb (Weak.mk ?_) ?_
  ·simp (disch:=omega) only [Zj,List.replicate,go_sem,seval];omega
  ·intro k hk;have hrl:=Pc (x:=x) (k:=k);simp (disch:=first | omega | (simp only [ZH,Zw,Zn,Zx,ZC,ZK]<;>omega)) only [Zj,List.replicate,eq_self,go_sem,seval];refine cD ?_ ?_<;>intro h2<;>simp (disch:=omega) only [Sh.out h2,hrl,go_sem,seval,↓reduceIte]
   ·have hk2:k<x.orders.length:=Za
    have hnk:=Pd hk2
    have he:QC ((ID x k).map eOrd) k=eOrd (nth x.orders k):=by grind [Wq]
    have ZE:((ID x k).map eOrd).set k (eOrd (FI x k))=(ID x (k+1)).map eOrd:=by rw [<- Uh,nF]
    simp only [HJ,FI] at ZE;simp (disch:=first | omega | (simp only [ZH,Zw,Zn,Zx,ZC,ZK]<;>omega)) only [hrl,eq_self,go_sem,seval];exact ⟨k+1,Za,Za,Weak.mk (by simp (disch:=omega) only [hnk,ZE,go_sem,seval])⟩
   ·have hkl:k=x.orders.length:=Za
    subst hkl;rw [Pb];exact ⟨_,_,Weak.refl _ _ _,rfl,rfl⟩
theorem KM {P:Program} {e:TypeId} {k:Nat} {cs:List PV} {kk:IntKind} {n:Int} {x:PV} (h0:0<=n) (h1:n<k) (hx:apart P e cs n.toNat=some x) (ht:YI P e=some 1):II P (some (.array k e)) (.p (.agg cs)) (.p (.int kk n))=some (.p x):=by
 simp_all [II]
def Zgq (s:Sco):PV:= .agg [.int .i64 s.cost,.int .i64 s.moved,.int .i64 s.other,.int .i64 s.work]
@[go_sem] theorem ZjS (s:Sco):Zgq s= .agg [.int .i64 s.cost,.int .i64 s.moved,.int .i64 s.other,.int .i64 s.work]:=Zh rfl rfl
theorem gB (s:Sco):PC 198 [.p (Ar s)] (Zgq s):=by
 refine Zf [] Tryz.func198 rfl zF ?_;simp (disch:=omega) only [Tryz.f198,go_sem,seval];exact we
def Ya (a b:Sco):Sco:=⟨a.cost+b.cost,a.moved+b.moved,a.other+b.other,a.work+b.work⟩
def UZ (B:Int) (s:Sco):Prop:=(-B<=s.cost/\s.cost<=B)/\(-B<=s.moved/\s.moved<=B)/\(-B<=s.other/\s.other<=B)/\(-B<=s.work/\s.work<=B)
def Be (s:Sco):AM.Obj:= .cells [.p (.int .i64 s.cost),.p (.int .i64 s.moved),.p (.int .i64 s.other),.p (.int .i64 s.work)]
def XE (s:Sco):Int×Int:=if s.cost<0\/s.moved<0\/s.other<0\/s.work<0 then (0,2) else if 1073741824<s.cost\/16<=s.moved\/16<=s.other\/65536<=s.work then (0,4) else (((s.cost*16+s.moved)*16+s.other)*65536+s.work,0)
theorem GH (s:Sco) (hs:UZ 1152921504606846976 s):PT 152 [.p (Ar s)] [.p (.int .i64 (XE s).1),.p (.int .i64 (XE s).2)]:=by
 obtain ⟨a1,a2,a3,a4⟩:=hs;refine Zf [] Tryz.func152 rfl yE ?_;simp (disch:=omega) only [Tryz.f152,go_sem,seval];refine (gB s).use (Wt ?_);refine Zk [1,9] (fun k:Nat=> [(10,.p (.int .i64 k))]) (fun _=> [Be s,Be s]) (fun k=>k<=4/\(0<k->0<=s.cost)/\(1<k->0<=s.moved)/\(2<k->0<=s.other)/\(3<k->0<=s.work)) (fun k=>4-k) 0 ⟨Za,Za,Za,Za,Za⟩ (Weak.mk ?_) ?_
 ·simp (disch:=omega) only [Be,go_sem,seval]
 ·rintro k ⟨hk,k1,k2,k3,k4⟩;simp (disch:=omega) only [Be,go_sem,seval];refine cD ?_ ?_<;>intro h1<;>simp (disch:=omega) only [Sh.out h1,go_sem,seval,↓reduceIte]
  ·have:k=0\/k=1\/k=2\/k=3:=Za
   rcases this with rfl | rfl | rfl | rfl
   ·rw [KM (x:= .int .i64 s.cost) Za Za (by rfl) Zd];refine Wt ?_;refine ZN ?_ ?_<;>intro h2
    ·have e:XE s=(0,2):=by simp_all [XE]
     rw [e];exact we
    ·exact ⟨1,⟨Za,fun _=>Za,Za,Za,Za⟩,Za,wk⟩
   ·rw [KM (x:= .int .i64 s.moved) Za Za (by rfl) Zd];refine Wt ?_;refine ZN ?_ ?_<;>intro h2
    ·have e:XE s=(0,2):=by simp_all [XE]
     rw [e];exact we
    ·exact ⟨2,⟨Za,fun _=>k1 Za,fun _=>Za,Za,Za⟩,Za,wk⟩
   ·rw [KM (x:= .int .i64 s.other) Za Za (by rfl) Zd];refine Wt ?_;refine ZN ?_ ?_<;>intro h2
    ·have e:XE s=(0,2):=by simp_all [XE]
     rw [e];exact we
    ·exact ⟨3,⟨Za,fun _=>k1 Za,fun _=>k2 Za,fun _=>Za,Za⟩,Za,wk⟩
   ·rw [KM (x:= .int .i64 s.work) Za Za (by rfl) Zd];refine Wt ?_;refine ZN ?_ ?_<;>intro h2
    ·have e:XE s=(0,2):=by simp_all [XE]
     rw [e];exact we
    ·exact ⟨4,⟨Za,fun _=>k1 Za,fun _=>k2 Za,fun _=>k3 Za,fun _=>Za⟩,Za,wk⟩
  ·have hk4:k=4:=Za
   subst hk4;have g1:=k1 Za;have g2:=k2 Za;have g3:=k3 Za;have g4:=k4 Za
   have n1: ¬(s.cost<0\/s.moved<0\/s.other<0\/s.work<0):=Za
   have bad:(1073741824<s.cost\/16<=s.moved\/16<=s.other\/65536<=s.work)->XE s=(0,4):=fun h=>by simp_all [XE]
   refine gF ?_ ?_<;>intro h2<;>simp (disch:=omega) only [Sh.out h2,go_sem,seval,↓reduceIte]
   ·rw [bad Za];exact we
   ·refine gF ?_ ?_<;>intro h3<;>simp (disch:=omega) only [Sh.out h3,go_sem,seval,↓reduceIte]
    ·rw [bad Za];exact we
    ·refine gF ?_ ?_<;>intro h4<;>simp (disch:=omega) only [Sh.out h4,go_sem,seval,↓reduceIte]
     ·rw [bad Za];exact we
     ·refine cD ?_ ?_<;>intro h5<;>simp (disch:=omega) only [Sh.out h5,go_sem,seval,↓reduceIte]
      ·rw [bad Za];exact we
      ·have e:XE s=(((s.cost*16+s.moved)*16+s.other)*65536+s.work,0):=by simp_all [XE,if_neg]
       rw [e];exact we
def XD (x:Inst) (i:Int):Sco×Int :=
 if i<0\/(x.orders.length:Int)<=i then (zSco,2)
 else if (nth x.orders i.toNat).off=true then (zSco,9)
 else if (nth x.orders i.toNat).penalty= -1 then (zSco,23)
 else (⟨(nth x.orders i.toNat).penalty,if (nth x.orders i.toNat).now= -1 then 0 else 1,0,0⟩,0)
theorem Mb (x:Inst) (i:Int) (ho:x.orders.length<=1048576):PT 151 [.p (ZG x),.p (.int .i64 i)] [.p (Ar (XD x i).1),.p (.int .i64 (XD x i).2)]:=by
 refine Zf [] Tryz.func151 rfl yD ?_;simp (disch:=omega) only [Tryz.f151,go_sem,seval];refine gF ?_ ?_<;>intro h1<;>simp (disch:=omega) only [Sh.out h1,go_sem,seval,↓reduceIte]
 ·have e:XD x i=(zSco,2):=by simp_all [XD]
  rw [e];exact we (by simp (disch:=omega) only [zSco,go_sem,seval])
 ·refine cD ?_ ?_<;>intro h2<;>simp (disch:=omega) only [Sh.out h2,go_sem,seval,↓reduceIte]
  ·have e:XD x i=(zSco,2):=by simp_all [XD]
   rw [e];exact we (by simp (disch:=omega) only [zSco,go_sem,seval])
  ·have hi:i.toNat<x.orders.length:=Za
   have n1: ¬(i<0\/(x.orders.length:Int)<=i):=Za
   refine cD ?_ ?_<;>intro h3<;>simp (disch:=omega) only [Sh.out h3,go_sem,seval,↓reduceIte]
   ·have e:XD x i=(zSco,9):=by simp_all [XD]
    rw [e];exact we (by simp (disch:=omega) only [zSco,go_sem,seval])
   ·have h3': ¬(nth x.orders i.toNat).off=true:=by rw [h3];simp
    refine cD ?_ ?_<;>intro h4<;>simp (disch:=omega) only [Sh.out h4,go_sem,seval,↓reduceIte]
    ·have e:XD x i=(zSco,23):=by simp_all [XD]
     rw [e];exact we (by simp (disch:=omega) only [zSco,go_sem,seval])
    ·refine cD ?_ ?_<;>intro h5<;>simp (disch:=omega) only [Sh.out h5,go_sem,seval,↓reduceIte]
     ·have e:XD x i=(⟨(nth x.orders i.toNat).penalty,1,0,0⟩,0):=by simp_all [XD]
      rw [e];exact we
     ·have h5':(nth x.orders i.toNat).now= -1:=Za
      have e:XD x i=(⟨(nth x.orders i.toNat).penalty,0,0,0⟩,0):=by simp_all [XD]
      rw [e];exact we
theorem Ix (x:Inst) (i:Int) (ho:x.orders.length<=1048576):PT 50 [.p (ZG x),.p (.int .i64 i)] [.p (Ar (XD x i).1),.p (.int .i64 (XD x i).2)]:=by
 refine Zf [] Tryz.func50 rfl Zhq ?_;simp (disch:=omega) only [Tryz.f50,go_sem,seval];refine gF ?_ ?_<;>intro h1<;>simp (disch:=omega) only [Sh.out h1,go_sem,seval,↓reduceIte]
 ·have e:XD x i=(zSco,2):=by simp_all [XD]
  rw [e];exact we (by simp (disch:=omega) only [zSco,go_sem,seval])
 ·refine cD ?_ ?_<;>intro h2<;>simp (disch:=omega) only [Sh.out h2,go_sem,seval,↓reduceIte]
  ·have e:XD x i=(zSco,2):=by simp_all [XD]
   rw [e];exact we (by simp (disch:=omega) only [zSco,go_sem,seval])
  ·have hi:i.toNat<x.orders.length:=Za
   have n1: ¬(i<0\/(x.orders.length:Int)<=i):=Za
   refine cD ?_ ?_<;>intro h3<;>simp (disch:=omega) only [Sh.out h3,go_sem,seval,↓reduceIte]
   ·have e:XD x i=(zSco,9):=by simp_all [XD]
    rw [e];exact we (by simp (disch:=omega) only [zSco,go_sem,seval])
   ·have h3': ¬(nth x.orders i.toNat).off=true:=by rw [h3];simp
    refine cD ?_ ?_<;>intro h4<;>simp (disch:=omega) only [Sh.out h4,go_sem,seval,↓reduceIte]
    ·have e:XD x i=(zSco,23):=by simp_all [XD]
     rw [e];exact we (by simp (disch:=omega) only [zSco,go_sem,seval])
    ·refine cD ?_ ?_<;>intro h5<;>simp (disch:=omega) only [Sh.out h5,go_sem,seval,↓reduceIte]
     ·have e:XD x i=(⟨(nth x.orders i.toNat).penalty,1,0,0⟩,0):=by simp_all [XD]
      rw [e];exact we
     ·have h5':(nth x.orders i.toNat).now= -1:=Za
      have e:XD x i=(⟨(nth x.orders i.toNat).penalty,0,0,0⟩,0):=by simp_all [XD]
      rw [e];exact we
theorem Hc (a b:Sco) (ha:UZ 1152921504606846976 a) (hb:UZ 1152921504606846976 b):PC 49 [.p (Ar a),.p (Ar b)] (Ar (Ya a b)):=by
 obtain ⟨a1,a2,a3,a4⟩:=ha;obtain ⟨b1,b2,b3,b4⟩:=hb;refine Zf [] Tryz.func49 rfl Zhp ?_;simp (disch:=omega) only [Tryz.f49,go_sem,seval];exact we (by simp (disch:=omega) only [Ya,go_sem,seval])
def Av (a b:Int):Int:=if a<b then-1 else if b<a then 1 else 0
theorem Ah (a b:Int):PC 51 [.p (.int .i64 a),.p (.int .i64 b)] (.int .i64 (Av a b)):=by
 refine Zc Tryz.func51 rfl Zhr ?_;simp (disch:=omega) only [Tryz.f51,go_sem,seval];refine cD ?_ ?_<;>intro h<;>simp (disch:=omega) only [Sh.out h,go_sem,seval]
 ·rw [Av,if_pos h]
 ·refine cD ?_ ?_<;>intro h2<;>simp (disch:=omega) only [Sh.out h2,go_sem,seval]
  ·simp_all [Av]
  simp_all [Av,if_neg]
def HD (a b:Sco):Int:=if Av a.cost b.cost≠0 then Av a.cost b.cost else if Av a.moved b.moved≠0 then Av a.moved b.moved else if Av a.other b.other≠0 then Av a.other b.other else Av a.work b.work
theorem La (a b:Sco):PC 18 [.p (Ar a),.p (Ar b)] (.int .i64 (HD a b)):=by
 have c1:=Ah a.cost b.cost;have c2:=Ah a.moved b.moved;have c3:=Ah a.other b.other;have c4:=Ah a.work b.work;have e:HD a b=HD a b:=rfl
 conv at e=>rhs;unfold HD
 generalize HD a b=R at e;generalize Av a.cost b.cost=r1 at c1 e;generalize Av a.moved b.moved=r2 at c2 e;generalize Av a.other b.other=r3 at c3 e;generalize Av a.work b.work=r4 at c4 e;refine Q8 [] Tryz.func18 rfl Zhh ?_;simp (disch:=omega) only [Tryz.f18,go_sem,seval];refine (c1).use (Wt ?_);refine cD ?_ ?_<;>intro h1<;>simp (disch:=omega) only [Sh.out h1,go_sem,seval,↓reduceIte]
 ·grind
 ·rw [if_neg h1] at e;refine (c2).use (Wt ?_);refine cD ?_ ?_<;>intro h2<;>simp (disch:=omega) only [Sh.out h2,go_sem,seval,↓reduceIte]
  ·grind
  ·rw [if_neg h2] at e;refine (c3).use (Wt ?_);refine cD ?_ ?_<;>intro h3<;>simp (disch:=omega) only [Sh.out h3,go_sem,seval,↓reduceIte]
   ·grind
   ·rw [if_neg h3] at e;refine (c4).use (Wt ?_);rw [e]
theorem wE {a b:Sco} (h1:(XE a).2=0) (h2:(XE b).2=0) (h:(XE a).1<=(XE b).1):HD a b<=0:=by
 unfold XE at *
 split at h1
 ·cases h1
 ·split at h1
  ·cases h1
  ·split at h2
   ·cases h2
   ·split at h2
    ·cases h2
    ·rename_i a1 a2 b1 b2;simp only [a1,a2,b1,b2,Yr] at h
     grind [HD,Av]
def Li (x:Inst) (t:Typ) (r:Rte) (c:Bool) (sp:List Stp):PV:= .agg [.list x.net.places_c (x.net.places.map eS),.list x.net.arcs_c (x.net.arcs.map Ud),.list x.types_c (x.types.map Uf),.list x.orders_c (x.orders.map eOrd),.list x.apart_c (x.apart.map eP),.list x.before_c (x.before.map eP),.str t.name,.int .i64 t.count,.int .i64 t.src,.int .i64 t.dst,.list t.cap_c (t.cap.map eI),.int .i64 t.skills,.int .i64 t.prof,.int .i64 t.opn,.int .i64 t.cls,.int .i64 t.drive,.int .i64 t.rest,.int .i64 t.fixed,.int .i64 t.perMile,.int .i64 t.perTick,.int .i64 r.typ,.int .i64 r.start,.list r.rests_c (r.rests.map eB),.list r.visits_c (r.visits.map Xc),.list c (sp.map Ep)]
@[go_sem] theorem Zj8 (x:Inst) (t:Typ) (r:Rte) (c:Bool) (sp:List Stp):Li x t r c sp= .agg [.list x.net.places_c (x.net.places.map eS),.list x.net.arcs_c (x.net.arcs.map Ud),.list x.types_c (x.types.map Uf),.list x.orders_c (x.orders.map eOrd),.list x.apart_c (x.apart.map eP),.list x.before_c (x.before.map eP),.str t.name,.int .i64 t.count,.int .i64 t.src,.int .i64 t.dst,.list t.cap_c (t.cap.map eI),.int .i64 t.skills,.int .i64 t.prof,.int .i64 t.opn,.int .i64 t.cls,.int .i64 t.drive,.int .i64 t.rest,.int .i64 t.fixed,.int .i64 t.perMile,.int .i64 t.perTick,.int .i64 r.typ,.int .i64 r.start,.list r.rests_c (r.rests.map eB),.list r.visits_c (r.visits.map Xc),.list c (sp.map Ep)]:=Zh rfl rfl
def Zcb (x:Inst) (t:Typ) (r:Rte):List V:= [.p (.list x.net.places_c (x.net.places.map eS)),.p (.list x.net.arcs_c (x.net.arcs.map Ud)),.p (.list x.types_c (x.types.map Uf)),.p (.list x.orders_c (x.orders.map eOrd)),.p (.list x.apart_c (x.apart.map eP)),.p (.list x.before_c (x.before.map eP)),.p (.str t.name),.p (.int .i64 t.count),.p (.int .i64 t.src),.p (.int .i64 t.dst),.p (.list t.cap_c (t.cap.map eI)),.p (.int .i64 t.skills),.p (.int .i64 t.prof),.p (.int .i64 t.opn),.p (.int .i64 t.cls),.p (.int .i64 t.drive),.p (.int .i64 t.rest),.p (.int .i64 t.fixed),.p (.int .i64 t.perMile),.p (.int .i64 t.perTick),.p (.int .i64 r.typ),.p (.int .i64 r.start),.p (.list r.rests_c (r.rests.map eB)),.p (.list r.visits_c (r.visits.map Xc))]
def YQ (x:Inst) (t:Typ) (r:Rte) (c:Bool) (sp:List Stp):AM.Obj:= .cells [.p (.list x.net.places_c (x.net.places.map eS)),.p (.list x.net.arcs_c (x.net.arcs.map Ud)),.p (.list x.types_c (x.types.map Uf)),.p (.list x.orders_c (x.orders.map eOrd)),.p (.list x.apart_c (x.apart.map eP)),.p (.list x.before_c (x.before.map eP)),.p (.str t.name),.p (.int .i64 t.count),.p (.int .i64 t.src),.p (.int .i64 t.dst),.p (.list t.cap_c (t.cap.map eI)),.p (.int .i64 t.skills),.p (.int .i64 t.prof),.p (.int .i64 t.opn),.p (.int .i64 t.cls),.p (.int .i64 t.drive),.p (.int .i64 t.rest),.p (.int .i64 t.fixed),.p (.int .i64 t.perMile),.p (.int .i64 t.perTick),.p (.int .i64 r.typ),.p (.int .i64 r.start),.p (.list r.rests_c (r.rests.map eB)),.p (.list r.visits_c (r.visits.map Xc)),.p (.list c (sp.map Ep))]
def Zcn : AM.Obj:= .cells [.p (.list true []),.p (.list true []),.p (.list true []),.p (.list true []),.p (.list true []),.p (.list true []),.p (.str []),.p (.int .i64 0),.p (.int .i64 0),.p (.int .i64 0),.p (.list true []),.p (.int .i64 0),.p (.int .i64 0),.p (.int .i64 0),.p (.int .i64 0),.p (.int .i64 0),.p (.int .i64 0),.p (.int .i64 0),.p (.int .i64 0),.p (.int .i64 0),.p (.int .i64 0),.p (.int .i64 0),.p (.list true []),.p (.list true []),.p (.list true [])]
def Jj (L:Lab):PV:= .agg [.int .i64 L.ready,.int .i64 L.since,.bool L.she.rest,.int .i64 L.she.dep,.list L.she.times_c (L.she.times.map eTim),.int .i64 L.she.fin,.int .i64 L.she.miles]
@[go_sem] theorem ZjZ (L:Lab):Jj L= .agg [.int .i64 L.ready,.int .i64 L.since,.bool L.she.rest,.int .i64 L.she.dep,.list L.she.times_c (L.she.times.map eTim),.int .i64 L.she.fin,.int .i64 L.she.miles]:=Zh rfl rfl
@[go_sem] theorem ZcS (l:List Lab):Cq 7 (l.map Jj)=true:=D7 (f:=Jj) (S:=7) (fun _=>rfl) l
def WA (L:Lab):AM.Obj:= .cells [.p (.int .i64 L.ready),.p (.int .i64 L.since),.p (.bool L.she.rest),.p (.int .i64 L.she.dep),.p (.list L.she.times_c (L.she.times.map eTim)),.p (.int .i64 L.she.fin),.p (.int .i64 L.she.miles)]
theorem bC (l:List Tim) (c:Bool) (hl:l.length<=1048576):ACalls Tryz.prog 312 [.p (.list c (l.map eTim))] [] fun x H'=>x= .sl 0 0 l.length l.length/\H'= [.elems 4 (l.map eTim)]:=by
 suffices hh:ACalls Tryz.prog 312 [.p (.list c (l.map eTim))] [] fun x H'=> ∃m:List Tim,m=l/\x= .sl 0 0 m.length m.length/\H'= [.elems 4 (m.map eTim)] by
  grind
 refine Zf [1] Tryz.func312 rfl Za5 ?_;simp (disch:=omega) only [Tryz.f312,go_sem,seval];refine U0 (U0 (lL 1 rfl rfl ?_));refine ⟨_,PI (e:=178) rfl Tryz.underlying93 rfl (fun _=>rfl),?_⟩;rintro _ ⟨b,rfl,hb⟩;refine Wt ?_;refine Zg [] _ _ _ _ ?_
 cases b with
 | true =>
  have hn:l= []:=by simp_all
  subst hn;refine Wt ?_;exact ⟨_,_,Weak.ofNil 0 4 rfl Zb (wk),[],rfl,rfl,rfl⟩
 | false =>
  refine Wt ?_;refine Zg [] _ _ _ _ (Wt ?_);exact ⟨.sl 0 0 l.length l.length,[.elems 4 (l.map eTim)],wk,l,rfl,rfl,rfl⟩
theorem F6 (x:Inst) (t:Typ) (r:Rte) (c:Bool) (sp:List Stp):PC 270 [.p (Li x t r c sp)] (Jj (labF t r.start)):=by
 refine Zf [] Tryz.func270 rfl Zat ?_;simp (disch:=omega) only [Tryz.f270,go_sem,seval];exact we (by simp (disch:=omega) only [labF,zShe,Zo,go_sem,seval])
theorem gS (x:Inst) (t:Typ) (r:Rte) (c:Bool) (sp:List Stp) (k:Nat) (hk:k<=sp.length) (hl:sp.length<=1048576):PC 313 [.p (Li x t r c sp),.p (.int .i64 (k:Nat))] (.int .i64 (Uj t sp k)):=by
 refine Zc Tryz.func313 rfl Za6 ?_;simp (disch:=omega) only [Tryz.f313,go_sem,seval];refine cD ?_ ?_<;>intro h<;>simp (disch:=omega) only [Sh.out h,go_sem,seval,↓reduceIte]
 ·simp_all [Uj]
 simp_all [Uj]
theorem ZbP (x:Inst) (r:Rte) (hx:InstOk x) (hty:0<=r.typ/\r.typ<(x.types.length:Int)) (h0:Xl x r.visits=0) (hs:0<=r.start/\r.start<=4096) :
  PT 269 [.p (ZG x),.p (Wc r)] [.p (Li x (ZW x r) r false (Z6 x r.visits)),.p (.bool true)]:=by
 have hd:=U3 hx;have hsq:=Um h0;have hol:=hd.ord;have htl:=hd.typ;have hvl:=hsq.len hol
 have e1: ¬r.typ<0:=Za
 have e2: ¬(x.types.length:Int)<=r.typ:=Za
 have e3: ¬r.start<0:=Za
 have e4: ¬ 4096<r.start:=Za
 have e5: ¬ 20<(r.visits.length:Int):=Za
 refine Zf [12] Tryz.func269 rfl dW ?_;simp (disch:=omega) only [Tryz.f269,e1,e2,e3,e4,e5,go_sem,seval];refine Xa [9] 10 mixed Zd Zd Zd Zb (Wt ?_);refine ZF 9 _ _ Zd (by refine Wt ?_;exact ⟨rfl,rfl⟩) (X5 ?_);refine Wt ?_
 refine Xe [12] [2,4,6,49,50] (fun q:Nat×List Stp=> [(51,.p (.int .i64 q.1))])
  (fun q=> [Zj x,Xb r,Zcn,.cells (Zcb x (ZW x r) r++ [.sl 4 0 q.2.length q.2.length]),.elems 4 (q.2.map Ep)])
  (fun q=>q.1<=r.visits.length/\q.2=(Z6 x r.visits).take q.1) (fun q=>r.visits.length-q.1) (0,[]) Zb ((Weak.nilC (o:=3) (j:=24) 4 rfl rfl Zb).trans (Weak.mk ?_)) ?_
 ·simp (disch:=omega) only [Zj,Xb,Zcn,Zcb,ZW,Zo,Zw,Xr,Yf,ZY,Xk,go_sem,seval]
 ·rintro ⟨k,o⟩ ⟨hk,ho⟩;simp only at hk ho
  have hol2:o.length=k:=by grind [Yl]
  simp (disch:=omega) only [Zj,Xb,Zcn,Zcb,go_sem,seval];refine cD ?_ ?_<;>intro h1<;>simp (disch:=omega) only [Sh.out h1,go_sem,seval,↓reduceIte]
  ·have hk2:k<r.visits.length:=Za
   have hvis:=hsq.vis (Zq hk2);simp only [KI,ZO,Zl] at hvis
   have hsn:o++ [XL x (nth r.visits k)]=(Z6 x r.visits).take (k+1):=by
    rw [ho,Xo (by grind [Yl]),<- Ze,Fk hk2]
   have hnp: ¬(XL x (nth r.visits k)).place<0:=Za
   refine X4 (PK x (nth r.visits k) Za hvis.1 hvis.2) ?_;simp (disch:=omega) only [hnp,go_sem,seval];exact ⟨(k+1,o++ [XL x (nth r.visits k)]),⟨Za,hsn⟩,Za,Weak.mk (by simp (disch:=omega) only [Zn,ZH,Zw,X0,Zu,Zo,go_sem,seval])⟩
  ·have hkl:k=r.visits.length:=Za
   subst hkl
   have hso:o=Z6 x r.visits:=by grind [Yl]
   subst hso;refine Zs (Weak.fz (o:=4) (by rfl)) (Zg [] _ _ _ _ (AE ?_));exact we
def Mz (rd sn:Int) (m:She):AM.Obj:= .cells [.p (.int .i64 rd),.p (.int .i64 sn),.p (.bool m.rest),.p (.int .i64 m.dep),.sl 4 0 m.times.length m.times.length,.p (.int .i64 m.fin),.p (.int .i64 m.miles)]
theorem AV {P:Program} {H:List AM.Obj} {f ars} {a b d:PV} {B:V->Prop} {t} (h:ACalls P f ars [] fun x H'=>x= .tup [.p a,.p b,.p d]/\H'= []) (k:B (.tup [.p a,.p b,.p d])) (ha:Xd 0 ars=true:=by rfl) :
  R4 (fun y=>ACalls P f ars H (Zt (Zt (fun x H'=>x=y/\H'=H) ⟨⟩) ⟨⟩)) (Zt B t) :=
 ⟨.tup [.p a,.p b,.p d],(h.behind ha H).mono fun x H' hq=>by
  obtain ⟨y,H1,⟨rfl,rfl⟩,rfl,rfl⟩:=hq
  simp [shV,shVs,Zt],k⟩
theorem ZbA (x:Inst) (t:Typ) (r:Rte) (c:Bool) (sp:List Stp) (hok:TrpOk x t sp) (k:Nat) (hk:k<=sp.length) (hs1:0<sp.length) (L:Lab) (hL:LabR k L) (hlen:L.she.times.length=k) (hclip:0<k->L.she.times_c=false) (b:Bool) :
  PT 295 [.p (Li x t r c sp),.p (Jj L),.p (.int .i64 (k:Nat)),.p (.bool b)] [.p (Jj (nxtF x t sp k L b).1),.p (.int .i64 (nxtF x t sp k L b).2)]:=by
 have hd:=J8 hok hL b;have hsn:=Fi hL b;have hg:=HN hok hL b;have hmi:=hL.mil;have hrd:=hL.rdy;have hsnL:=hL.snc;have hsl:=hok.len;have hrst:=hok.rst;unfold nxtF;have hmm:= @Kh k (ZM t L b) b L.she;have hmf:= @GA k (ZM t L b) b L.she;have hml:= @Ac k (ZM t L b) b L.she;refine Zf [2,7,14,31] Tryz.func295 rfl ZaP ?_;simp (disch:=omega) only [Tryz.f295,go_sem,seval];refine XR (Wt ?_);refine ZJ [2,3,4,5,8] (fun _:Unit=> [(10,.p (.int .i64 (ZM t L b))),(11,.p (.int .i64 (Ws L b)))]) (fun _=> [YQ x t r c sp,WA L,WA Wv]) (fun _=>True) ?_ ?_
 ·refine Wt ?_;refine ZN ?_ ?_<;>intro h
  ·subst h;exact ⟨(),Weak.mk (by simp (disch:=omega) only [YQ,WA,Wv,zShe,ZM,Ws,Zo,go_sem,seval,↓reduceIte])⟩
  ·subst h;exact ⟨(),Weak.mk (by simp (disch:=omega) only [YQ,WA,Wv,zShe,ZM,Ws,Zo,go_sem,seval,↓reduceIte])⟩
 ·intro _ _;refine Zg [7,14,31] _ _ _ _ ?_;simp (disch:=omega) only [YQ,WA,Wv,zShe,Zo,go_sem,seval];refine (bC L.she.times L.she.times_c Za).useF (Wt ?_)
  generalize hM:XZ k (ZM t L b) b L.she=M at *
  refine ZJ [2,4,8,10,11,12] (fun _:Unit=> []) (fun _=> [YQ x t r c sp,WA L,WA Wv,Mz 0 0 M,.elems 4 (M.times.map eTim)]) (fun _=>True) ?_ ?_
  ·refine Wt ?_;refine ZN ?_ ?_<;>intro h
   ·have hk0:k=0:=Za
    subst hk0
    have e:M= { L.she with rest:=b,dep:=ZM t L b } :=by rw [<- hM,XZ,if_pos rfl]
    rw [e];exact ⟨(),Weak.mk (by simp (disch:=omega) only [YQ,WA,Wv,zShe,Mz,Zo,go_sem,seval])⟩
   ·have e1:((k:Int)-1).toNat=k-1:=Za
    have hk1:k-1<L.she.times.length:=Za
    have Pi:(L.she.times.map eTim).set (k-1) (PV.agg [.int .i64 (nth L.she.times (k-1)).arr,.int .i64 (nth L.she.times (k-1)).beg,.int .i64 (nth L.she.times (k-1)).dep,.bool b])=(L.she.times.set (k-1) { nth L.she.times (k-1) with rest:=b }).map eTim:=by
     rw [Uh];rfl
    have hn1:nth (L.she.times.set (k-1) { nth L.she.times (k-1) with rest:=b }) (k-1)= { nth L.she.times (k-1) with rest:=b } :=by
     grind [Ze]
    have hl1:(L.she.times.set (k-1) { nth L.she.times (k-1) with rest:=b }).length=L.she.times.length:=Zb
    have hMt:M.times=(L.she.times.set (k-1) { nth L.she.times (k-1) with rest:=b }).set (k-1) { nth (L.she.times.set (k-1) { nth L.she.times (k-1) with rest:=b }) (k-1) with dep:=ZM t L b } :=by
     rw [hn1,List.set_set,<- hM,XZ,if_neg Za];rfl
    have hM2:M.rest=L.she.rest/\M.dep=L.she.dep:=by rw [<- hM,XZ,if_neg Za];simp
    simp (disch:=first | omega | (simp only [ZH,Zw,Zn,Zx,ZC,ZK]<;>omega)) only [e1,go_sem,seval,↓reduceIte];rw [Pi]
    generalize L.she.times.set (k-1) { nth L.she.times (k-1) with rest:=b } =l1 at *
    simp (disch:=first | omega | (simp only [ZH,Zw,Zn,Zx,ZC,ZK]<;>omega)) only [e1,hl1,eq_self,BB,go_sem,seval];refine ⟨(),Weak.mk ?_⟩;simp (disch:=omega) only [YQ,WA,Wv,zShe,Mz,Zo,hM2.1,hM2.2,hmm,hmf,hml,go_sem,seval];rw [hMt,Uh]
    rfl
  ·intro _ _;refine Zg [14,31] _ _ _ _ ?_;simp (disch:=omega) only [YQ,WA,Wv,zShe,Mz,Zo,go_sem,seval];refine ZJ [2,4,8,10,11,12,13] (fun _:Unit=> [(14,.p (.int .i64 (To t sp k)))]) (fun _=> [YQ x t r c sp,WA L,WA Wv,Mz 0 0 M,.elems 4 (M.times.map eTim)]) (fun _=>True) ?_ ?_
   ·refine Wt ?_;refine ZN ?_ ?_<;>intro h
    ·have e:To t sp k=(nth sp k).place:=by rw [To,if_neg Za]
     exact ⟨(),Weak.mk (by simp (disch:=omega) only [YQ,WA,Wv,zShe,Mz,Zo,e,go_sem,seval])⟩
    ·have e:To t sp k=t.dst:=by rw [To,if_pos Za]
     exact ⟨(),Weak.mk (by simp (disch:=omega) only [YQ,WA,Wv,zShe,Mz,Zo,e,go_sem,seval])⟩
   ·intro _ _;refine Zg [31] _ _ _ _ ?_;simp (disch:=omega) only [YQ,WA,Wv,zShe,Mz,Zo,go_sem,seval];refine XR (Wt ?_);refine Zp (gS x t r c sp k hk Za) (Wt ?_);refine AV (tD x.net t.prof (Uj t sp k) (To t sp k) (ZM t L b) hok.net Za) (Wt ?_);have hG:goN x.net t.prof (Uj t sp k) (To t sp k) (ZM t L b)=Y7 x t sp k (ZM t L b):=rfl;rw [hG];clear hG
    generalize Y7 x t sp k (ZM t L b)=g at *
    generalize ZM t L b=d at *
    generalize Ws L b=s at *
    refine cD ?_ ?_<;>intro h1<;>simp (disch:=omega) only [Sh.out h1,go_sem,seval,↓reduceIte]
    ·have e:Wz t sp k g d s M=(Wv,12):=by rw [Wz,if_pos h1]
     rw [e];exact we (by simp (disch:=omega) only [Wv,zShe,Zo,go_sem,seval])
    ·refine cD ?_ ?_<;>intro h2<;>simp (disch:=omega) only [Sh.out h2,go_sem,seval,↓reduceIte]
     ·refine cD ?_ ?_<;>intro h3<;>simp (disch:=omega) only [Sh.out h3,go_sem,seval,↓reduceIte]
      ·have e:Wz t sp k g d s M=(Wv,15):=by rw [Wz,if_neg h1,if_pos Za,if_pos h3]
       rw [e];exact we (by simp (disch:=omega) only [Wv,zShe,Zo,go_sem,seval])
      ·refine Zs (Weak.fz (o:=4) (by rfl)) (Zg [] _ _ _ _ (AE ?_));refine cD ?_ ?_<;>intro h4<;>simp (disch:=omega) only [Sh.out h4,go_sem,seval,↓reduceIte]
       ·have e:Wz t sp k g d s M=(Wv,16):=by rw [Wz,if_neg h1,if_pos Za,if_neg h3,if_pos h4]
        rw [e];exact we (by simp (disch:=omega) only [Wv,zShe,Zo,go_sem,seval])
       ·have e:Wz t sp k g d s M=(⟨g.1,s+g.1-d,{ M with fin:=g.1,miles:=M.miles+g.2.1 }⟩,0):=by rw [Wz,if_neg h1,if_pos Za,if_neg h3,if_neg h4]
        have hMc:M.times_c=false:=by
         rw [<- hM,XZ,if_neg Za]
         grind
        rw [e];exact we (by simp (disch:=omega) only [hMc,go_sem,seval])
     ·have h2': ¬k=sp.length:=Za
      have hkl:k<sp.length:=Za
      have hstp:=hok.stp _ (ZD hkl);refine X4 (OQ (nth sp k) g.1) ?_;unfold Ef
      by_cases h3:(nth sp k).cls<max g.1 (nth sp k).opn
      ·have e:Wz t sp k g d s M=(Wv,14):=by simp_all [Wz]
       rw [e,if_pos h3];refine Wt ?_;exact we (by simp (disch:=omega) only [Wv,zShe,Zo,go_sem,seval])
      ·rw [if_neg h3];refine Wt ?_;refine Zs (Weak.fz (o:=4) (by rfl)) (Zg [] _ _ _ _ (AE ?_));refine cD ?_ ?_<;>intro h4<;>simp (disch:=omega) only [Sh.out h4,go_sem,seval,↓reduceIte]
       ·have e:Wz t sp k g d s M=(Wv,16):=by simp_all [Wz]
        rw [e];exact we (by simp (disch:=omega) only [Wv,zShe,Zo,go_sem,seval])
       ·have e:Wz t sp k g d s M=(⟨max g.1 (nth sp k).opn+(nth sp k).serv,s+g.1-d,{ M with times_c:=false,times:=M.times++ [⟨g.1,max g.1 (nth sp k).opn,0,false⟩],miles:=M.miles+g.2.1 }⟩,0):=by simp_all [Wz,if_neg]
        rw [e];exact we
theorem SC {x t sp k L b} (hs:0<sp.length) (hc:0<k->L.she.times_c=false) (he:(nxtF x t sp k L b).2=0):(nxtF x t sp k L b).1.she.times_c=false:=by
 have hm:0<k->(XZ k (ZM t L b) b L.she).times_c=false:=fun h=>by rw [XZ,if_neg Za];exact hc h
 unfold nxtF at he ⊢
 generalize Y7 x t sp k (ZM t L b)=g at *
 generalize ZM t L b=d at *
 generalize Ws L b=s at *
 generalize XZ k d b L.she=m at *
 unfold Wz at he ⊢
 grind
structure LabO (n k:Nat) (L:Lab):Prop where
 rng:LabR k L
 len:k<=n->L.she.times.length=k
 clip:0<k->L.she.times_c=false
theorem Gq {x t sp k L b} (hok:TrpOk x t sp) (hs:0<sp.length) (hk:k<=sp.length) (h:LabO sp.length k L) (he:(nxtF x t sp k L b).2=0):LabO sp.length (k+1) (nxtF x t sp k L b).1 :=
 ⟨H7 hok hk h.rng he,fun hk2=>EQ (h.len hk) he Za,fun _=>SC hs h.clip he⟩
theorem Gs {x t sp} (hok:TrpOk x t sp) {st:Int} (hst:0<=st/\st<=4096):LabO sp.length 0 (labF t st) :=
 ⟨⟨by have:=hok.opn;grind [labF],by simp [labF],by simp [labF,zShe]⟩,fun _=>rfl,fun h=>Za⟩
theorem PD (x:Inst) (t:Typ) (r:Rte) (c:Bool) (sp:List Stp) (hok:TrpOk x t sp) (k:Nat) (hk:k<=sp.length) (hs1:0<sp.length) (L:Lab) (hL:LabO sp.length k L) (b:Bool) :
  PT 295 [.p (Li x t r c sp),.p (Jj L),.p (.int .i64 (k:Nat)),.p (.bool b)] [.p (Jj (nxtF x t sp k L b).1),.p (.int .i64 (nxtF x t sp k L b).2)] :=
 ZbA x t r c sp hok k hk hs1 L hL.rng (hL.len hk) hL.clip b
theorem Zim (x:Inst) (t:Typ) (r:Rte) (c:Bool) (sp:List Stp) (hok:TrpOk x t sp) (hs1:0<sp.length) (hst:0<=r.start/\r.start<=4096) (bs:List Bool) (d:Bool) (hb:bs.length=sp.length+1) :
  PT 272 [.p (Li x t r c sp),.p (.list d (bs.map eB))] [.p (En (Xy x t sp 0 (labF t r.start) bs).1.she),.p (.int .i64 (Xy x t sp 0 (labF t r.start) bs).2)]:=by
 have hsl:=hok.len;refine Zf [] Tryz.func272 rfl Zav ?_;simp (disch:=omega) only [Tryz.f272,go_sem,seval];refine (F6 x t r c sp).use (Wt ?_)
 refine Zk [2,4,6,13,14] (fun q:Nat×Lab=> [(15,.p (.int .i64 q.1))]) (fun q=> [YQ x t r c sp,.cells [.p (.bool false),.p (.int .i64 0),.p (.list true []),.p (.int .i64 0),.p (.int .i64 0)],WA q.2])
  (fun q=>q.1<=bs.length/\Xy x t sp 0 (labF t r.start) bs=Xy x t sp q.1 q.2 (bs.drop q.1)/\LabO sp.length q.1 q.2) (fun q=>bs.length-q.1) (0,labF t r.start) ⟨Zb,Zb,Gs hok hst⟩ (Weak.mk ?_) ?_
 ·simp (disch:=omega) only [YQ,WA,go_sem,seval]
 ·rintro ⟨k,L⟩ ⟨hk,hrun,hL⟩;simp only at hk hrun hL;simp (disch:=omega) only [YQ,WA,go_sem,seval];refine cD ?_ ?_<;>intro h1<;>simp (disch:=omega) only [Sh.out h1,go_sem,seval,↓reduceIte]
  ·have hk2:k<bs.length:=Za
   have hdrop:bs.drop k=nth bs k::bs.drop (k+1):=by rw [UG hk2,Ze hk2]
   rw [hdrop,Xy] at hrun;have cn:=PD x t r c sp hok k Za hs1 L hL (nth bs k);have hL2:=Gq (x:=x) (t:=t) (b:=nth bs k) hok hs1 Za hL
   generalize nxtF x t sp k L (nth bs k)=N at *
   refine X4 cn (Wt ?_);refine ZN ?_ ?_<;>intro h2
   ·rw [hrun,if_neg h2];exact we (by simp (disch:=omega) only [Wv,zShe,Zo,go_sem,seval])
   ·rw [if_pos Za] at hrun;exact ⟨(k+1,N.1),⟨Za,hrun,hL2 Za⟩,Za,wk⟩
  ·have hkl:k=bs.length:=Za
   subst hkl;rw [KY,Xy] at hrun;rw [hrun];exact we
theorem lM (l m:Lab):PC 298 [.p (Jj l),.p (Jj m)] (.bool (Z7 l m)):=by
 refine Zc Tryz.func298 rfl ZaS ?_;simp (disch:=omega) only [Tryz.f298,go_sem,seval];refine gT ?_ ?_<;>intro h<;>simp (disch:=omega) only [Sh.out h,go_sem,seval,↓reduceIte]
 ·simp [Z7,h]
 ·simp [Z7,h]
def gH (x:Inst) (t:Typ) (r:Rte) (c:Bool) (sp:List Stp) (o:List Lab) (f z:Lab):List AM.Obj:= [YQ x t r c sp,.dead,.elems 7 (o.map Jj),WA f,WA z]
theorem nH (x:Inst) (t:Typ) (r:Rte) (c:Bool) (sp:List Stp) (o:List Lab) (f z m:Lab):ACalls Tryz.prog 297 [.p (Jj m),.ptr 4 0] (gH x t r c sp o f z) fun y H'=>y= .p (.bool (Z7 m z))/\H'=gH x t r c sp o f z:=by
 refine Zf [] Tryz.func297 rfl ZaR ?_;simp (disch:=omega) only [Tryz.f297,gH,YQ,WA,go_sem,seval];refine (lM m z).use (Wt ?_);exact we
theorem NL (x:Inst) (t:Typ) (r:Rte) (c:Bool) (sp:List Stp) (o:List Lab) (f z:Lab) (hl:o.length<=2097152) :
  ACalls Tryz.prog 314 [.sl 2 0 o.length o.length,.fn (.func 297) [] [.ptr 4 0]] (gH x t r c sp o f z) fun y H'=>y= .p (.int .i64 (sR (fun m=>Z7 m z) o))/\H'=gH x t r c sp o f z:=by
 refine Zf [] Tryz.func314 rfl Za7 ?_;simp (disch:=omega) only [Tryz.f314,gH,YQ,WA,go_sem,seval];refine Zk [0,1,7] (fun k:Nat=> [(8,.p (.int .i64 k))]) (fun _=>gH x t r c sp o f z) (fun k=>k<=o.length/\ ∀j,j<k->Z7 (nth o j) z=false) (fun k=>o.length-k) 0 Zb (Weak.mk ?_) ?_
 ·simp (disch:=omega) only [gH,YQ,WA,go_sem,seval,↓reduceIte]
 ·rintro k ⟨hk,hno⟩;simp (disch:=omega) only [gH,YQ,WA,go_sem,seval];refine cD ?_ ?_<;>intro h<;>simp (disch:=omega) only [Sh.out h,go_sem,seval,↓reduceIte]
  ·have hk2:k<o.length:=Za
   have hg:=nH x t r c sp o f z (nth o k);simp (disch:=first | omega | (simp only [ZH,Zw,Zn,Zx,ZC,ZK]<;>omega)) only [Wq hk2,hk2,go_sem,seval,↓reduceIte];simp (disch:=omega) only [gH,YQ,WA,go_sem,seval] at hg;refine hg.useH (Wt ?_);refine cD ?_ ?_<;>intro h2<;>simp (disch:=omega) only [Sh.out h2,go_sem,seval,↓reduceIte]
   ·rw [dF (f:=fun m=>Z7 m z) hk2 h2 hno];exact we
   ·exact ⟨k+1,⟨Za,Zm.2 ⟨hno,Za⟩⟩,Za,wk⟩
  ·have hkl:k=o.length:=Za
   subst hkl;rw [dH hno];exact we
theorem FG (x:Inst) (t:Typ) (r:Rte) (c:Bool) (sp:List Stp) (o:List Lab) (f z:Lab) (hl:o.length<=2097152) :
  ACalls Tryz.prog 296 [.sl 2 0 o.length o.length,.fn (.func 297) [] [.ptr 4 0]] (gH x t r c sp o f z) fun y H'=>y= .p (.bool (o.any fun m=>Z7 m z))/\H'=gH x t r c sp o f z:=by
 refine Zf [] Tryz.func296 rfl ZaQ ?_;simp (disch:=omega) only [Tryz.f296,go_sem,seval];refine (NL x t r c sp o f z hl).useH (Wt ?_);rw [dG];exact we (by simp (disch:=omega) only [gH,YQ,WA,go_sem,seval])
def Cw (x:Inst) (t:Typ) (sp:List Stp) (r:List Bool) (k:Nat) (f:Lab) (bs:List Bool) (l:List Lab):List Lab:=bs.filterMap (XO x t sp k f)++WZ (XO x t sp) (V6 r) k l
theorem wV (x:Inst) (t:Typ) (r:Rte) (c:Bool) (sp:List Stp) (hok:TrpOk x t sp) (hs1:0<sp.length) (k:Nat) (hk:k<=sp.length) (hrl:r.rests.length<=1048576) (l:List Lab) (d:Bool) (hl:l.length<=1048576) (hL: ∀L∈l,LabO sp.length k L) :
  PC 271 [.p (Li x t r c sp),.p (.list d (l.map Jj)),.p (.int .i64 (k:Nat))] (.list false ((XX Z7 [] (WZ (XO x t sp) (V6 r.rests) k l)).map Jj)):=by
 have hsl:=hok.len;refine Zf [2,16] Tryz.func271 rfl Zau ?_;simp (disch:=omega) only [Tryz.f271,go_sem,seval];refine Zs (Weak.fz (o:=1) (by rfl)) (AE ?_);refine ZJ [1,2,3] (fun cb:Bool=> [(7,.p (.list cb ((V6 r.rests k).map eB)))]) (fun _=> [YQ x t r c sp,.dead]) (fun _=>True) ?_ ?_
 ·refine Wt ?_;refine ZN ?_ ?_<;>intro h
  ·have hk2:k<r.rests.length:=Za
   have e:V6 r.rests k=(r.rests.take (k+1)).drop k:=by
    grind [V6,Xo]
   exact ⟨r.rests_c&&decide ((k:Int)+1=(r.rests.length:Int)),Weak.mk (by simp (disch:=omega) only [YQ,e,go_sem,seval])⟩
  ·have e:V6 r.rests k= [false,true]:=by grind [V6]
   exact ⟨false,Weak.mk (by simp (disch:=omega) only [YQ,e,Zu,Zo,go_sem,seval])⟩
 ·intro cb _
  have hch:(V6 r.rests k).length<=2:=by grind [V6]
  refine Zg [16] _ _ _ _ ?_;simp (disch:=omega) only [YQ,go_sem,seval]
  refine Xe [16] [2,3,7,29,30] (fun q:Nat×List Lab=> [(8,.sl 2 0 q.2.length q.2.length),(31,.p (.int .i64 q.1))]) (fun q=> [YQ x t r c sp,.dead,.elems 7 (q.2.map Jj)])
   (fun q=>q.1<=l.length/\XX Z7 [] (WZ (XO x t sp) (V6 r.rests) k l)=XX Z7 q.2 (WZ (XO x t sp) (V6 r.rests) k (l.drop q.1))/\q.2.length<=2*q.1) (fun q=>l.length-q.1) (0,[]) Zb (Weak.ofNil 8 7 rfl Zb (Weak.mk ?_)) ?_
  ·simp (disch:=omega) only [YQ,Zo,Zw,go_sem,seval]
  ·rintro ⟨i,o⟩ ⟨hi,hpr,hol⟩;simp only at hi hpr hol;simp (disch:=omega) only [YQ,go_sem,seval];refine cD ?_ ?_<;>intro h1<;>simp (disch:=omega) only [Sh.out h1,go_sem,seval,↓reduceIte]
   ·have hi2:i<l.length:=Za
    have hLi:=hL _ (ZD hi2)
    have hdrop:l.drop i=nth l i::l.drop (i+1):=by rw [UG hi2,Ze hi2]
    rw [hdrop] at hpr;have hpr:XX Z7 [] (WZ (XO x t sp) (V6 r.rests) k l)=XX Z7 o (Cw x t sp r.rests k (nth l i) ((V6 r.rests k).drop 0) (l.drop (i+1))):=hpr
    refine Zk [2,3,7,10,29,30,31,35,36] (fun q:Nat×List Lab=> [(8,.sl 2 0 q.2.length q.2.length),(37,.p (.int .i64 q.1))]) (fun q=> [YQ x t r c sp,.dead,.elems 7 (q.2.map Jj),WA (nth l i)])
     (fun q=>q.1<=(V6 r.rests k).length/\XX Z7 [] (WZ (XO x t sp) (V6 r.rests) k l)=XX Z7 q.2 (Cw x t sp r.rests k (nth l i) ((V6 r.rests k).drop q.1) (l.drop (i+1)))/\q.2.length<=2*i+q.1) (fun q=>(V6 r.rests k).length-q.1) (0,o) ⟨Zb,hpr,hol⟩ (Weak.mk ?_) ?_
    ·simp (disch:=omega) only [YQ,WA,go_sem,seval]
    ·clear hpr hol;rintro ⟨j,o⟩ ⟨hj,hpr,hol⟩;simp only at hj hpr hol;simp (disch:=omega) only [YQ,WA,go_sem,seval];refine ZN ?_ ?_<;>intro h2
     ·have hj2:j<(V6 r.rests k).length:=Za
      have hd2:(V6 r.rests k).drop j=nth (V6 r.rests k) j::(V6 r.rests k).drop (j+1):=by rw [UG hj2,Ze hj2]
      have cn:=PD x t r c sp hok k hk hs1 (nth l i) hLi (nth (V6 r.rests k) j);have ho2:XO x t sp k (nth l i) (nth (V6 r.rests k) j)=if (nxtF x t sp k (nth l i) (nth (V6 r.rests k) j)).2=0 then some (nxtF x t sp k (nth l i) (nth (V6 r.rests k) j)).1 else none:=rfl;rw [hd2,Cw,List.filterMap_cons,ho2] at hpr
      generalize nxtF x t sp k (nth l i) (nth (V6 r.rests k) j)=N at *
      refine X4 cn (Wt ?_);refine J6 ?_ ?_<;>intro h3
      ·have hcl:=FG x t r c sp o (nth l i) N.1 Za;simp (disch:=omega) only [gH,YQ,WA,go_sem,seval] at hcl;refine hcl.useH (Wt ?_);rw [if_pos h3] at hpr;have hpr:XX Z7 [] (WZ (XO x t sp) (V6 r.rests) k l)=if (o.any fun m=>Z7 m N.1)=true then XX Z7 o (Cw x t sp r.rests k (nth l i) ((V6 r.rests k).drop (j+1)) (l.drop (i+1))) else XX Z7 (o++ [N.1]) (Cw x t sp r.rests k (nth l i) ((V6 r.rests k).drop (j+1)) (l.drop (i+1))):=hpr;refine ZN ?_ ?_<;>intro h4
       ·rw [if_neg (by grind)] at hpr;exact ⟨(j+1,o++ [N.1]),⟨Za,hpr,by simp;omega⟩,Za,Weak.mk (by simp (disch:=omega) only [Zn,ZH,Zw,X0,Zu,Zo,go_sem,seval])⟩
       ·rw [if_pos (by grind)] at hpr;exact ⟨(j+1,o),⟨Za,hpr,by grind⟩,Za,wk⟩
      ·rw [if_neg h3] at hpr;exact ⟨(j+1,o),⟨Za,hpr,by grind⟩,Za,wk⟩
     ·have hjl:j=(V6 r.rests k).length:=Za
      subst hjl;rw [KY,Cw,List.filterMap_nil,Xk] at hpr;exact ⟨(i+1,o),⟨Za,hpr,by grind⟩,Za,wk⟩
   ·have hil:i=l.length:=Za
    subst hil;have e:WZ (XO x t sp) (V6 r.rests) k []= []:=rfl;rw [KY,e,XX] at hpr;rw [hpr];refine Zs (Weak.fz (o:=2) (by rfl)) (Zg [] _ _ _ _ (AE ?_));exact we
def mO : PV:= .agg [.list true [],.list true [],.list true [],.list true [],.list true [],.list true [],.str [],.int .i64 0,.int .i64 0,.int .i64 0,.list true [],.int .i64 0,.int .i64 0,.int .i64 0,.int .i64 0,.int .i64 0,.int .i64 0,.int .i64 0,.int .i64 0,.int .i64 0,.int .i64 0,.int .i64 0,.list true [],.list true [],.list true []]
theorem oN (x:Inst) (r:Rte) (hty:0<=r.typ/\r.typ<(x.types.length:Int)) (htl:x.types.length<=1048576) (hvl:r.visits.length<=20) (hs: ¬(0<=r.start/\r.start<=4096)) :
  PT 269 [.p (ZG x),.p (Wc r)] [.p mO,.p (.bool false)]:=by
 have e1: ¬r.typ<0:=Za
 have e2: ¬(x.types.length:Int)<=r.typ:=Za
 refine Zf [] Tryz.func269 rfl dW ?_;simp (disch:=omega) only [Tryz.f269,e1,e2,go_sem,seval];refine gF ?_ ?_<;>intro h1<;>simp (disch:=omega) only [Sh.out h1,go_sem,seval,↓reduceIte]
 ·exact we (by simp (disch:=omega) only [mO,go_sem,seval])
 ·refine gF ?_ ?_<;>intro h2<;>simp (disch:=omega) only [Sh.out h2,go_sem,seval,↓reduceIte]
  ·exact we (by simp (disch:=omega) only [mO,go_sem,seval])
  ·omega
theorem Ml {x t sp} : ∀(bs:List Bool) (k:Nat) (L:Lab),¬(Xy x t sp k L bs).2=0->(Xy x t sp k L bs).1=Wv
 | [],k,L,h=>by simp [Xy] at h
 | b::bs,k,L,h=>by
  rw [Xy] at h ⊢
  split
  ·rename_i c;rw [if_pos c] at h;exact Ml bs (k+1) _ h
  ·rfl
theorem R9 (n:Nat):List.replicate n false∈Y3 (List.replicate n false):=by
 rw [fromB_next];simp
theorem cX {l:List Lab} (h:Vq We none l=none):l= []:=by
 cases l with
 | nil=>rfl
 | cons a l =>
  obtain ⟨z,hz,_⟩:=QO (fin:=We) l a;have:Vq We none (a::l)=Vq We (some a) l:=rfl
  grind
theorem RI {x t sp} {st:Int} {r:List Bool} (h:Vq We none ((YY r (sp.length+1)).filterMap (Vp (XO x t sp) 0 (labF t st)))=none): ¬(Xy x t sp 0 (labF t st) (Y8 r (sp.length+1))).2=0:=fun h0=>by
 have h1:=cX h;have h2:Y8 r (sp.length+1)∈YY r (sp.length+1):=Xg.2 ⟨_,R9 _,rfl⟩
 simp_all [VS]
theorem Nr {x t sp} {st:Int} {r:List Bool} (hr:r.length<=sp.length+1) (h:Vq We none (JP Z7 (XO x t sp) (V6 r) (sp.length+1) 0 [labF t st])=none): ¬(Xy x t sp 0 (labF t st) (Y8 r (sp.length+1))).2=0 :=
 RI (by rw [Gt,Vi,Ge r _ hr] at h;exact h)
def QH (x:Inst) (r:Rte):She×Int:=if 0<=r.start/\r.start<=4096/\r.rests.length<=r.visits.length+1 then Xu x r else (zShe,2)
theorem aO {x t sp} {ch:Nat->List Bool} {k:Nat} {l:List Lab} (hok:TrpOk x t sp) (hs:0<sp.length) (hk:k<=sp.length) (h: ∀L∈l,LabO sp.length k L): ∀L∈XX Z7 [] (WZ (XO x t sp) ch k l),LabO sp.length (k+1) L:=fun L hL=>by
 have h1:=Ai Z7 _ _ L hL;rw [Xk] at h1;obtain ⟨a,ha,hb⟩:=YN.1 h1
 grind [XO,Gq]
theorem CS : ∀(c out:List Lab),(XX Z7 out c).length<=out.length+c.length
 | [],out=>by simp [XX]
 | x::c,out=>by
  rw [XX]
  split
  ·have:=CS c out;simp;omega
  ·have:=CS c (out++ [x]);simp at this ⊢;omega
theorem F8 {x t sp} {r:List Bool} {k:Nat} : ∀l:List Lab,(WZ (XO x t sp) (V6 r) k l).length<=2*l.length
 | []=>by simp [WZ]
 | a::l=>by
  have ih:=F8 (x:=x) (t:=t) (sp:=sp) (r:=r) (k:=k) l;have h1:(WZ (XO x t sp) (V6 r) k (a::l))=(V6 r k).filterMap (XO x t sp k a)++WZ (XO x t sp) (V6 r) k l:=rfl
  grind [V6]
theorem oI (x:Inst) (r:Rte) (hx:InstOk x) (hl:r.visits.length<=1048576) (hrl:r.rests.length<=1048576) (hty:0<=r.typ/\r.typ<(x.types.length:Int)) (h0:Xl x r.visits=0) :
  PT 221 [.p (ZG x),.p (Wc r)] [.p (En (QH x r).1),.p (.int .i64 (QH x r).2)]:=by
 have hd:=U3 hx;have hsq:=Um h0;have hol:=hd.ord;have htl:=hd.typ;have hvl:=hsq.len hol;have hok:=KG hx hty hsq;have hsl:(Z6 x r.visits).length=r.visits.length:=Yl
 have hs1:0<(Z6 x r.visits).length:=by
  rw [hsl];have:=hsq.ne
  grind
 refine Zf [6,13,14] Tryz.func221 rfl zK ?_;simp (disch:=omega) only [Tryz.f221,go_sem,seval]
 by_cases hs:0<=r.start/\r.start<=4096
 ·refine X4 (ZbP x r hx hty h0 hs) (Wt ?_);refine cD ?_ ?_<;>intro h1<;>simp (disch:=omega) only [Sh.out h1,go_sem,seval,↓reduceIte]
  ·have e:QH x r=(zShe,2):=by rw [QH,if_neg Za]
   rw [e];exact we (by simp (disch:=omega) only [zShe,Zo,go_sem,seval])
  ·have hrs:r.rests.length<=r.visits.length+1:=Za
   have e:QH x r=Xu x r:=by simp_all [QH]
   have hbn:= @Nr x (ZW x r) (Z6 x r.visits) r.start r.rests Za;rw [e,Xu,Ht Za];refine (F6 x (ZW x r) r false (Z6 x r.visits)).use (Wt ?_)
   generalize hT:ZW x r=t at *
   generalize hS:Z6 x r.visits=sp at *
   refine Zs (Weak.fz (o:=4) (by rfl)) ?_;refine Zg [13,14] _ _ _ _ (Wt ?_)
   refine Xe [13,14] [3,4,6,8,38] (fun q:Nat×List Lab=> [(9,.p (.list false (q.2.map Jj))),(39,.p (.int .i64 q.1))]) (fun _=> [Zj x,Xb r,.cells [.p (.bool false),.p (.int .i64 0),.p (.list true []),.p (.int .i64 0),.p (.int .i64 0)],YQ x t r false sp,.dead])
    (fun q=>q.1<=sp.length+1/\JP Z7 (XO x t sp) (V6 r.rests) (sp.length+1) 0 [labF t r.start]=JP Z7 (XO x t sp) (V6 r.rests) (sp.length+1-q.1) q.1 q.2/\(∀L∈q.2,LabO sp.length q.1 L)/\q.2.length<=2^q.1) (fun q=>sp.length+1-q.1) (0,[labF t r.start]) ⟨Zb,Zb,fun L hL=>by grind [Gs],Zb⟩ (Weak.mk ?_) ?_
   ·simp (disch:=omega) only [Zj,Xb,YQ,Zu,Zo,Xr,Yf,go_sem,seval]
   ·rintro ⟨k,l⟩ ⟨hk,hit,hlo,hll⟩;simp only at hk hit hlo hll;simp (disch:=omega) only [Zj,Xb,YQ,go_sem,seval];refine cD ?_ ?_<;>intro h2<;>simp (disch:=omega) only [Sh.out h2,go_sem,seval,↓reduceIte]
    ·have hk2:k<=sp.length:=Za
     have hp20:2^k<=2^20:=Yw Za Za;refine (wV x t r false sp hok hs1 k hk2 hrl l false Za hlo).use (Wt ?_)
     have hn:JP Z7 (XO x t sp) (V6 r.rests) (sp.length+1-k) k l=JP Z7 (XO x t sp) (V6 r.rests) (sp.length+1-(k+1)) (k+1) (XX Z7 [] (WZ (XO x t sp) (V6 r.rests) k l)):=by
      have e:sp.length+1-k=(sp.length+1-(k+1))+1:=Za
      rw [e,JP]
     have hln:=CS (WZ (XO x t sp) (V6 r.rests) k l) [];have hln2:=F8 (x:=x) (t:=t) (sp:=sp) (r:=r.rests) (k:=k) l;exact ⟨(k+1,XX Z7 [] (WZ (XO x t sp) (V6 r.rests) k l)),⟨Za,hit.trans hn,aO hok hs1 hk2 hlo,by grind⟩,Za,Weak.mk (by simp (disch:=omega) only [Xr,Yf,go_sem,seval])⟩
    ·have hkn:k=sp.length+1:=Za
     subst hkn;rw [Nat.sub_self,JP] at hit;rw [hit] at hbn ⊢;clear hit;refine cD ?_ ?_<;>intro h3<;>simp (disch:=omega) only [Sh.out h3,go_sem,seval,↓reduceIte]
     ·have hl0:l= []:=Zy Za;subst hl0;have hbn:=hbn rfl;refine U0 (DB 3 rfl rfl (Wt ?_));refine ⟨_,_,L5 (e:=4) rfl Tryz.underlying46 Zd rfl rfl rfl ?_ ?_ ?_,?_⟩
      ·simp
      ·simp;omega
      ·intro q hq;obtain ⟨b,_,rfl⟩:=Xg.1 hq
       rfl
      ·have hpl:(Y8 r.rests (sp.length+1)).length=sp.length+1:=by simp [Y8];omega
       have hpad:r.rests.map eB++(PV.bool false::List.replicate r.visits.length (PV.bool false)).drop (r.rests.map eB).length=(Y8 r.rests (sp.length+1)).map eB:=by
        rw [Y8,X0,<- Qw,List.drop_replicate,DG,hsl,Zx];rfl
       have hcr:=Zim x t r false sp hok hs1 hs (Y8 r.rests (sp.length+1)) false hpl;have hbad:=Ml _ _ _ hbn;rw [hbad] at hcr;simp only [Xr,Yf];rw [hpad]
       generalize hRP:Y8 r.rests (sp.length+1)=rp at *
       refine Zs (Weak.fz (o:=5) (by rfl)) (Zg [] _ _ _ _ (AE ?_));rw [if_pos Za];refine X4 hcr (Wt ?_);have hfm0:Vq We none ([]:List Lab)=none:=rfl;rw [hfm0];exact we (by simp (disch:=omega) only [Wv,zShe,Zo,go_sem,seval])
     ·cases l with
      | nil=>simp at h3
      | cons l0 l =>
       have e0:QC ((l0::l).map Jj) 0=Jj l0:=rfl;have hn0:nth (l0::l) 0=l0:=rfl;simp (disch:=first | omega | (simp only [ZH,Zw,Zn,Zx,ZC,ZK]<;>omega)) only [hn0,X7,go_sem,seval];have hfm:Vq We none (l0::l)=Vq We (some l0) l:=rfl;rw [hfm]
       have hlen:l.length<=2097152:=by
        have hp20:2^(sp.length+1)<=2^21:=Yw Za Za
        grind
       refine Zk [4,12,65,66] (fun q:Nat×Lab=> [(67,.p (.int .i64 q.1))]) (fun q=> [Zj x,Xb r,.cells [.p (.bool false),.p (.int .i64 0),.p (.list true []),.p (.int .i64 0),.p (.int .i64 0)],YQ x t r false sp,.dead,WA q.2])
        (fun q=>q.1<=l.length/\Vq We (some l0) l=Vq We (some q.2) (l.drop q.1)) (fun q=>l.length-q.1) (0,l0) Zb (Weak.mk ?_) ?_
       ·simp (disch:=omega) only [Zj,Xb,YQ,WA,go_sem,seval]
       ·rintro ⟨i,m⟩ ⟨hi,hm⟩;simp only at hi hm;simp (disch:=omega) only [Zj,Xb,YQ,WA,go_sem,seval];refine cD ?_ ?_<;>intro h4<;>simp (disch:=omega) only [Sh.out h4,go_sem,seval,↓reduceIte]
        ·have hi2:i<l.length:=Za
         have hdrop:l.drop i=nth l i::l.drop (i+1):=by rw [UG hi2,Ze hi2]
         rw [hdrop,Vq] at hm;refine ZN ?_ ?_<;>intro h5
         ·rw [if_pos (show We (nth l i)<We m from h5)] at hm;exact ⟨(i+1,nth l i),⟨Za,hm⟩,Za,wk⟩
         ·rw [if_neg (show ¬We (nth l i)<We m from h5)] at hm;exact ⟨(i+1,m),⟨Za,hm⟩,Za,wk⟩
        ·have hil:i=l.length:=Za
         subst hil;rw [KY,Vq] at hm;rw [hm];exact we
 ·have e:QH x r=(zShe,2):=by rw [QH,if_neg (fun h=>hs ⟨h.1,h.2.1⟩)]
  rw [e];refine X4 (oN x r hty htl hvl hs) ?_;simp (disch:=omega) only [mO,go_sem,seval];exact we (by simp (disch:=omega) only [zShe,Zo,go_sem,seval])
end Go.Proofs.YtiigdaohjanidaaGreatDoor.K
