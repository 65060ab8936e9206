/- Declarations that the closing texts need, part 25: joined by tools/slim.py. -/
import Derived.Test.YtiigdaohjanidaaGreatDoorS24
import Derived.Shelf.Slices.In.SortNone
import Derived.Shelf.Sort.Plain
set_option linter.unusedVariables false
set_option linter.unusedSimpArgs false
namespace Go.Proofs.YtiigdaohjanidaaGreatDoor.K
open Go Go.AM Go.Proofs
set_option maxRecDepth 8000
def Hg (x:Inst) (l:List Col) (g:List Int) (k:Nat):Int:=if (nth x.orders k).off=true then 0 else if 0<=nth g k then (if KH (nth l (nth g k).toNat).set.toNat=(k:Int) then (nth l (nth g k).toNat).price else 0) else skR x k
def Rb (x:Inst) (l:List Col) (g:List Int):Nat->Int
 | 0=>0
 | d+1=>Hg x l g (x.orders.length-(d+1))+Rb x l g d
theorem C7 {x:Inst} {l ys:List Col} (hc:Ctx x l ys): ∀(d:Nat) (a:List Int) (s:St) (p:Int),d<=x.orders.length->Nd x l a s (x.orders.length-d)->(∀T:Nat,T<x.types.length->(usdI l a T x.orders.length:Int)<=(nth x.types T).count)-> ∀q∈Rw x l d a p,
  (∀T:Nat,T<x.types.length->(usdI l q.1 T x.orders.length:Int)<=(nth x.types T).count)/\(∀t,x.orders.length-d<=t->t<x.orders.length->(nth x.orders t).off=true\/0<=nth q.1 t\/0<=(nth x.orders t).penalty)/\q.2=p+Rb x l q.1 d
 | 0,a,s,p,_,h,hu,q,hq=>by
  simp only [Rw,XR,Kp,or_false] at hq
  grind [Rb]
 | d+1,a,s,p,hd,h,hu,q,hq=>by
  obtain ⟨k,hk⟩: ∃k,k=x.orders.length-(d+1):=⟨_,rfl⟩
  have hkn:k<x.orders.length:=Za
  have hk1:x.orders.length-d=k+1:=Za
  rw [<- hk] at h ⊢;rw [Rw,<- hk] at hq;rw [Rb,<- hk];have old:=fun (a:List Int) (p:Int) (hl:a.length=x.orders.length) (hq:q∈Rw x l d a p)=>(C8 d a p Za hl q hq).2 k hkn (.inl Za)
  split at hq
  ·rename_i ho;obtain ⟨i1,i2,i3⟩:=C7 hc d a (HU s) p Za (by rw [hk1];exact h.skip' hkn) hu q hq;have e:=old a p h.len hq;refine ⟨i1,fun t h1 h2=> ?_,?_⟩
   ·grind
   ·have z:Hg x l q.1 k=0:=by
     unfold Hg;rcases ho with ho | ho
     ·grind
     ·split
      ·rfl
      ·rw [e,if_pos ho,if_neg fun htz=> ?_];obtain ⟨t,t1,t2⟩:=h.old k hkn (Zx _) ho;have hr:=h.rng k hkn;obtain ⟨_,s0,s1,_⟩:=hc.set (ZH (l:=l) (i:=(nth a k).toNat) Za);have:=((ES s0 s1 hc.n4 hkn).1 htz).2 t Za t2;omega
    omega
  ·rename_i ho;have hoff: ¬(nth x.orders k).off=true:=fun e=>ho (.inl e);have hak:nth a k<0:=Int.not_le.1 fun g=>ho (.inr g);rw [Xr,W2] at hq;rcases hq with ⟨j,hj,hq⟩ | hq
   ·have hj:=ZS.1 hj
    split at hq
    ·rename_i hcan;obtain ⟨hy,htz⟩:=(Of hc h hkn hj).1 hcan;have hch:=h.child hc hkn hj hcan;obtain ⟨c1,c2⟩:=CU h.len hcan;have hcan':=hcan;simp only [Hb,Zy,Zp,Db,h.len] at hcan';obtain ⟨hb,hcnt,hneg⟩:=hcan'
     have hfr: ∀i,i<x.orders.length->(nth l j).set.toNat.testBit i=false->nth a i≠(j:Int):=fun i hi _ e=>by
      have:=h.grp i hi Za k hkn (by simp_all);omega
     obtain ⟨i1,i2,i3⟩:=C7 hc d _ _ _ Za (by rw [hk1];exact hch) (fun T hT=>by
      rw [Cq h.len hkn hb hneg hfr T _ (Zx _)];have h0:=hu T hT
      by_cases e:(nth l j).typ=(T:Int)
      ·rw [if_pos ⟨hkn,e⟩]
       grind [XP]
      grind) q hq
     have e:=old _ _ (by rw [EH];exact h.len) hq;rw [Ym (by rw [h.len];exact hkn),if_pos c1] at e;refine ⟨i1,fun t h1 h2=> ?_,?_⟩
     ·grind
     ·have z:Hg x l q.1 k=(nth l j).price:=by
       unfold Hg;rw [if_neg hoff,e,if_pos Za,XP,if_pos htz]
      omega
    ·simp at hq
   ·split at hq
    ·rename_i hpen;obtain ⟨i1,i2,i3⟩:=C7 hc d a (HU s) _ Za (by rw [hk1];exact h.skip' hkn) hu q hq;have e:=old a _ h.len hq;refine ⟨i1,fun t h1 h2=> ?_,?_⟩
     ·grind
     ·have z:Hg x l q.1 k=skR x k:=by
       simp_all [Hg,if_neg]
      omega
    ·simp at hq
theorem uC {x:Inst} {l ys:List Col} (hc:Ctx x l ys) {g:List Int} {s:St} (hg:Nd x l g s x.orders.length) {k:Nat} (hk:k<x.orders.length) (h0:0<=nth g k):M3 g k=true↔KH (nth l (nth g k).toNat).set.toNat=(k:Int):=by
 have hr:=hg.rng k hk;obtain ⟨_,s0,s1,_⟩:=hc.set (ZH (l:=l) (i:=(nth g k).toNat) Za);rw [AU,ES s0 s1 hc.n4 hk]
 constructor
 ·intro h;refine ⟨hg.own k hk h0,fun i hi hb=>Nat.le_of_not_lt fun hlt=>h i hlt (hg.grp k hk h0 i hi hb)⟩
 ·rintro ⟨_,h⟩ t ht e;have h2:=hg.own t Za Za
  grind
theorem SR {x:Inst} {l ys:List Col} (hc:Ctx x l ys) {g:List Int} {s:St} (hg:Nd x l g s x.orders.length) (T:Int): ∀d k,k+d=x.orders.length->(RA l g d k).countP (fun c=>decide (c.typ=T))+usdI l g T k=usdI l g T (k+d)
 | 0,k,_=>by simp [RA]
 | d+1,k,h=>by
  have ih:=SR hc hg T d (k+1) Za
  have hk:k<x.orders.length:=Za
  rw [RA,List.countP_append,show k+(d+1)=k+1+d by omega,<- ih,usdI,EU]
  by_cases h0:0<=nth g k
  ·have hf:=uC hc hg hk h0
   by_cases ht:KH (nth l (nth g k).toNat).set.toNat=(k:Int)
   ·rw [if_pos ⟨h0,ht⟩,hf.2 ht,YO h0]
    by_cases hT:(nth l (nth g k).toNat).typ=T
    ·simp [hT];omega
    ·simp [hT]
   ·rw [if_neg fun e=>ht e.2,show M3 g k=false from by
     cases e:M3 g k with
     | false=>rfl
     | true=>exact absurd (hf.1 e) ht]
    simp
  ·rw [if_neg fun e=>h0 e.1,Yd h0];simp
theorem K7 {α:Type} {p:α->Bool} : ∀ {l:List α},(l.Pairwise fun a b=> ¬(p a=true/\p b=true))->l.countP p<=1
 | [],_=>Zb
 | a::l,h=>by
  rw [List.pairwise_cons] at h;have ih:=K7 h.2;rw [List.countP_cons]
  split
  ·rename_i ha;have:l.countP p=0:=List.countP_eq_zero.2 fun b hb hpb=>h.1 b hb ⟨ha,hpb⟩;omega
  ·omega
theorem Zh6 : ∀S:Fin 16,0<S.val-> ∃k:Fin 4,KH S.val=(k.val:Int)/\S.val.testBit k.val=true:=by decide+kernel
theorem rE {x:Inst} {l ys:List Col} (hc:Ctx x l ys) {g:List Int} {s:St} (hg:Nd x l g s x.orders.length) {i:Nat} (hi:i<x.orders.length):(RA l g x.orders.length 0).countP (fun c=>c.set.toNat.testBit i)=if 0<=nth g i then 1 else 0:=by
 have hin: ∀t,t<x.orders.length->0<=nth g t->nth l (nth g t).toNat∈l:=fun t ht h0=>ZH (by have:=hg.rng t ht;omega)
 split
 ·rename_i h0;refine Nat.le_antisymm (K7 ?_) (U1.2 ?_)
  ·refine (Mq x.orders.length 0).imp_of_mem fun {a b} ha hb h hh=> ?_;obtain ⟨t,_,t1,t2,t3,rfl⟩:=(K1 _ _).1 ha;obtain ⟨u,_,u1,u2,u3,rfl⟩:=(K1 _ _).1 hb;have e1:=hg.grp t Za t2 i hi hh.1;have e2:=hg.grp u Za u2 i hi hh.2
   grind
  ·have hm:=hin i hi h0;obtain ⟨_,s0,s1,s2⟩:=hc.set hm;have h16:(nth l (nth g i).toNat).set.toNat<16:=JC s1 (Wk (n:=2) Za hc.n4);obtain ⟨k,k1,k2⟩:=Zh6 ⟨_,h16⟩ s0;simp only at k1 k2;have hk:=(s2 _ k2).1;have e:=hg.grp i hi h0 k.val hk k2;refine ⟨nth l (nth g i).toNat,(K1 _ _).2 ⟨k.val,Za,Za,Za,by grind,by rw [e]⟩,hg.own i hi h0⟩
 ·rename_i h0;refine List.countP_eq_zero.2 fun c hcm hb=>h0 ?_;obtain ⟨t,_,t1,t2,t3,rfl⟩:=(K1 _ _).1 hcm;rw [hg.grp t Za t2 i hi hb];exact t2
theorem Dm {x:Inst} {g:List Int} {u:Int} : ∀d k,u∈UA x g d k↔ ∃i,k<=i/\i<k+d/\nth g i<0/\(nth x.orders i).off=false/\u=(i:Int)
 | 0,k=>by simp [UA];omega
 | d+1,k=>by
  rw [UA,Xr,Dm d (k+1)]
  grind
theorem SV {x:Inst} {g:List Int} : ∀d k,(UA x g d k).Pairwise fun a b=>a<b
 | 0,k=> .nil
 | d+1,k=>by
  rw [UA,List.pairwise_append];refine ⟨?_,SV d (k+1),fun a ha b hb=> ?_⟩
  ·split<;>simp
  ·split at ha
   ·obtain ⟨i,h1,h2,h3,h4,rfl⟩:=(Dm _ _).1 hb
    grind
   ·simp at ha
theorem rG {x:Inst} {g:List Int} {i:Nat} (hi:i<x.orders.length):(UA x g x.orders.length 0).countP (fun u=>decide (u=(i:Int)))=if nth g i<0/\(nth x.orders i).off=false then 1 else 0:=by
 split
 ·rename_i h;refine Nat.le_antisymm (K7 ((SV _ _).imp fun {a b} h hh=> ?_)) (U1.2 ⟨(i:Int),(Dm _ _).2 ⟨i,Za,Za,h.1,h.2,rfl⟩,Zb⟩)
  grind
 ·rename_i h;refine List.countP_eq_zero.2 fun u hu e=>h ?_;obtain ⟨j,_,j1,j2,j3,rfl⟩:=(Dm _ _).1 hu
  grind
theorem SS {x:Inst} {l ys:List Col} (hc:Ctx x l ys) {g:List Int} {s:St} (hg:Nd x l g s x.orders.length): ∀d k,k+d=x.orders.length->((RA l g d k).map (·.price)).sum+((UA x g d k).map fun u=>skR x u.toNat).sum=Rb x l g d
 | 0,k,_=>by rfl
 | d+1,k,h=>by
  have ih:=SS hc hg d (k+1) Za
  have hk:k<x.orders.length:=Za
  rw [RA,UA,Rb,<- ih,Xx,Xx,List.sum_append,List.sum_append,show x.orders.length-(d+1)=k by omega]
  have key:((if 0<=nth g k/\KH (nth l (nth g k).toNat).set.toNat=(k:Int) then [nth l (nth g k).toNat] else []).map (·.price)).sum+((if nth g k<0/\(nth x.orders k).off=false then [(k:Int)] else []).map fun u=>skR x u.toNat).sum=Hg x l g k:=by
   unfold Hg
   by_cases h0:0<=nth g k
   ·have hr:=hg.rng k hk;have ho:(nth x.orders k).off=false:=((hc.set (ZH (l:=l) (i:=(nth g k).toNat) Za)).2.2.2 k (hg.own k hk h0)).2
    have e0: ¬(nth g k<0/\(nth x.orders k).off=false):=fun e=>Za
    have e1: ¬(nth x.orders k).off=true:=by rw [ho];simp
    rw [if_neg e0,if_neg e1,if_pos h0]
    by_cases ht:KH (nth l (nth g k).toNat).set.toNat=(k:Int)
    ·rw [if_pos ⟨h0,ht⟩,if_pos ht];simp
    ·rw [if_neg fun e=>ht e.2,if_neg ht];simp
   ·rw [if_neg fun e=>h0 e.1]
    cases ho:(nth x.orders k).off with
    | true=>simp
    | false=>rw [if_pos ⟨Za,rfl⟩,if_neg Zb,if_neg h0];simp
  omega
theorem eK {l m:List Int} (h:l.Perm m):l.sum=m.sum:=by
 induction h with
 | nil=>rfl
 | cons a _ ih=>grind
 | swap a b l=>grind
 | trans _ _ h1 h2=>omega
set_option maxHeartbeats 8000000
structure ColG (x:Inst) (c:Col):Prop where
 ev:evalE x c.route=0
 ty:c.route.typ=c.typ
 pr:(prcF x c.route).1=c.price
 st:c.set=((ordS c.route.visits:Nat):Int)
theorem SA {x:Inst} {L:List Col} {p:Pln} {c:Int} (hx:InstOk x) (hn:x.orders.length<=4) (hs: ∀c∈L,c.set<9223372036854775808) (hL: ∀c∈L,ColG x c) (h:Mp x L p c 0) :
  chkP x p=0/\XV (LZ x p)=(c,0)/\ ∀r∈p.routes,∃d∈L,r=d.route:=by
 rcases h with ⟨_,_,_,g⟩ | ⟨_,_,_,_,g⟩ | ⟨_,hr,ys,g3,_,g5⟩
 ·cases g
 ·cases g
 ·obtain ⟨D,hD⟩: ∃D:Nat,D=20:=⟨20,rfl⟩;have hc:=T0 hx hn g3 hr hs;rw [Tx hD] at g5;rcases g5 with ⟨_,_,_,g⟩ | ⟨g6,rfl,_,zs,hp,ha,rfl⟩
  ·cases g
  ·have hz:=OU x (L);have hpk:=Bp hc hD x.orders.length 0 zSt _ 20 Za Za hz;obtain ⟨s',hg⟩:=Oz hc (D:=D) x.orders.length 0 zSt _ Za hz;have hin:=Oy hc (D:=D) Za x.orders.length 0 zSt _ 0 Za hz g6;rw [Int.zero_add] at hin
   have hend:=C7 hc x.orders.length _ zSt 0 (Zx _) (by rw [Nat.sub_self];exact hz) (fun T hT=>by
    rw [H5 _ (Zx _)];have ht:=hx.types.2 T hT;obtain ⟨⟨⟨⟨⟨⟨⟨⟨_,_⟩,h1⟩,_⟩,_⟩,_⟩,_⟩,_⟩,_⟩:=ht;simp only [rng,Zp] at h1
    omega) _ hin
   simp only [mI] at hpk;rw [hpk] at hp ⊢;simp only at hp ⊢
   generalize gr x (L) ys D x.orders.length 0 zSt (List.replicate x.orders.length (-1))=g at *
   obtain ⟨q1,q2,q3⟩:=hend;simp only at q1 q2 q3;rw [Int.zero_add] at q3
   have hmem: ∀c∈zs,c∈L:=fun c hcm=>by
    rw [hp.mem_iff,K1] at hcm;obtain ⟨i,_,i1,i2,_,rfl⟩:=hcm;exact ZH (by have:=hg.rng i Za;omega)
   have hrt: ∀c∈zs,evalE x c.route=0/\c.route.typ=c.typ/\(prcF x c.route).1=c.price/\RightV x c.route.visits/\(∀i:Nat,hasO c.route.visits (i:Int)=c.set.toNat.testBit i):=fun c hcm=>by
    obtain ⟨h1,h2,h3,h4⟩:=hL c (hmem c hcm);have hR:RightV x c.route.visits:=WM h1;refine ⟨h1,h2,h3,hR,fun i=> ?_⟩;rw [h4,XP,Yp,hR.bit,XE]
   have cntr: ∀i,i<x.orders.length->Uc (zs.map (·.route)) i=if 0<=nth g i then 1 else 0:=fun i hi=>by
    have e:(zs.map (·.route)).countP (fun r=>hasO r.visits (i:Int))=zs.countP fun c=>c.set.toNat.testBit i:=by
     rw [List.countP_map]
     exact List.countP_congr fun c hcm=>by simp only [Function.comp,(hrt c hcm).2.2.2.2 i]
    rw [Uc,e,hp.countP_eq,rE hc hg hi]
    split<;>rfl
   have cntu: ∀i,i<x.orders.length->Y2 (UA x g x.orders.length 0) i=if nth g i<0/\(nth x.orders i).off=false then 1 else 0:=fun i hi=>by
    rw [Y2,rG hi]
    split<;>rfl
   have cntt: ∀t,t<x.types.length->AE (zs.map (·.route)) t<=(nth x.types t).count:=fun t ht=>by
    have e:(zs.map (·.route)).countP (fun r=>decide (r.typ=(t:Int)))=zs.countP fun c=>decide (c.typ=(t:Int)):=by
     rw [List.countP_map]
     exact List.countP_congr fun c hcm=>by simp only [Function.comp,(hrt c hcm).2.1]
    have h2:=SR hc hg (t:Int) x.orders.length 0 Za;rw [XG,usdI,W3] at h2;rw [AE,e,hp.countP_eq,h2];exact q1 t ht
   have hoffg: ∀i,i<x.orders.length->0<=nth g i->(nth x.orders i).off=false:=fun i hi h0=>by
    have hr:=hg.rng i hi;exact ((hc.set (ZH (l:=L) (i:=(nth g i).toNat) Za)).2.2.2 i (hg.own i hi h0)).2
   have hchk:chkP x ⟨false,zs.map (·.route),false,UA x g x.orders.length 0⟩=0:=by
    have c0:errR x (zs.map (·.route))=0:=DF.2 fun r hr=>by
     obtain ⟨c,hcm,rfl⟩:=XM.1 hr;exact (hrt c hcm).1
    have c1:Cp x (UA x g x.orders.length 0)=true:=by
     rw [Cp,Zu];intro u hu;obtain ⟨i,_,i1,_,_,rfl⟩:=(Dm _ _).1 hu;simp;omega
    have c2:Aq x ⟨false,zs.map (·.route),false,UA x g x.orders.length 0⟩=false:=by
     rw [Aq,Yi];intro i hi;have hi:=ZS.1 hi;simp only [Fi,cntr i hi,cntu i hi,Zp]
     split<;>split<;>omega
    have c3:K8 x ⟨false,zs.map (·.route),false,UA x g x.orders.length 0⟩=false:=by
     rw [K8,Yi];intro t ht;have:=cntt t (ZS.1 ht);simp only [Zp];omega
    have c4:JX x ⟨false,zs.map (·.route),false,UA x g x.orders.length 0⟩=false:=by
     rw [JX,Yi];intro i hi;have hi:=ZS.1 hi;simp only [cntu i hi,Zy,Zp];rintro ⟨h1,h2⟩;rw [if_neg fun e=>by rw [h1] at e;cases e.2] at h2;omega
    have c5:CB x ⟨false,zs.map (·.route),false,UA x g x.orders.length 0⟩=false:=by
     rw [CB,Yi];intro i hi;have hi:=ZS.1 hi;simp only [Fi,cntr i hi,cntu i hi,Zy,Y5,XI,Zp];rintro ⟨h1,h2⟩
     by_cases h0:0<=nth g i
     ·rw [if_pos h0,if_neg fun e=>Za] at h2;omega
     ·rw [if_neg h0,if_pos ⟨Za,h1⟩] at h2;rcases q2 i Za hi with h | h | h
      ·rw [h1] at h;cases h
      ·omega
      ·omega
    have n1: ¬Cp x (UA x g x.orders.length 0)=false:=by rw [c1];simp
    simp only [chkP,c0,c2,c3,c4,c5];rw [if_neg Zb,if_neg n1]
    rfl
   obtain ⟨hpp,hps⟩:=R1 hx hn hchk;have hfit:=(HS hx hn hchk).1
   have hsum:(XV (LZ x ⟨false,zs.map (·.route),false,UA x g x.orders.length 0⟩)).1=Lx x ys D zSt:=by
    rw [hps,q3,<- SS hc hg x.orders.length 0 Za]
    congr 1
    simp only [List.map_map];rw [show zs.map ((fun r=>(prcF x r).1)∘fun c=>c.route)=zs.map (·.price) from YN fun c hcm=>(hrt c hcm).2.2.1];exact eK (hp.map _)
   refine ⟨hchk,Prod.ext hsum hfit,fun r hr=> ?_⟩;obtain ⟨c,hcm,rfl⟩:=XM.1 hr;exact ⟨c,hmem c hcm,rfl⟩
structure Dis (l:List Rte):Prop where
 pw:l.Pairwise fun a b=> ∀v∈a.visits,∀w∈b.visits,v.order≠w.order
 ne: ∀b∈l,b.visits≠ []
theorem Dis.nodup {l:List Rte} (h:Dis l):l.Nodup:=by
 refine (h.pw.imp_of_mem fun {a b} ha _ hab e=> ?_);subst e;obtain ⟨v,hv⟩:=CZ _ (h.ne _ ha);exact hab v hv v hv rfl
theorem De {x:Inst} {now:Int} {l:List Rte} {b:Rte} : ∀k,b∈pfxL x now k l-> ∃j,j<k/\b=Af x now (nth l j)/\AQ x (nth l j) (Xc x (nth l j)) now≠0
 | 0,h=>by simp [pfxL] at h
 | k+1,h=>by
  rw [pfxL,Xr] at h;rcases h with h | h
  ·obtain ⟨j,h1,h2⟩:=De k h;exact ⟨j,Za,h2⟩
  ·split at h
   ·simp at h
   ·rename_i hn;exact ⟨k,Za,by simpa using h,hn⟩
theorem O5 {x:Inst} {p:Pln} {now:Int} (hk:chkP x p=0):Dis (pfxL x now p.routes.length p.routes):=by
 obtain ⟨_,k2,_⟩:=BX hk;have hr:=(Vj hk).1;have sub: ∀ {r:Rte} {v:Vis},v∈(Af x now r).visits->v∈r.visits:=fun h=>QY h
 constructor
 ·have key: ∀k,k<=p.routes.length->(pfxL x now k p.routes).Pairwise fun a b=> ∀v∈a.visits,∀w∈b.visits,v.order≠w.order:=fun k=>by
   induction k with
   | zero=>intro _;exact .nil
   | succ k ih =>
    intro hk2;rw [pfxL,List.pairwise_append];refine ⟨ih Za,by split<;>simp,fun a ha b hb v hv w hw e=> ?_⟩;obtain ⟨j,hj,rfl,_⟩:=De k ha
    have hb2:b=Af x now (nth p.routes k):=by
     split at hb
     ·simp at hb
     ·simpa using hb
    subst hb2;have hin:=(WM (hr _ (Zo (show k<p.routes.length by omega)))).inr w (sub hw)
    have ei:((w.order.toNat:Nat):Int)=w.order:=Za
    have:=jW (p:=fun r:Rte=>hasO r.visits ((w.order.toNat:Nat):Int)) hj (show k<p.routes.length by omega) (XE.2 ⟨v,sub hv,Za⟩) (XE.2 ⟨w,sub hw,Za⟩);have:=k2 w.order.toNat Za;omega
  exact key _ (Zx _)
 ·intro b hb e;obtain ⟨j,hj,rfl,hn⟩:=De _ hb;have:=Ow (x:=x) (r:=nth p.routes j) (s:=Xc x (nth p.routes j)) (now:=now)
  have e2:(Af x now (nth p.routes j)).visits.length=0:=by rw [e];rfl
  simp only [Af,ZY] at e2;omega
theorem OW {α:Type} {l:List α} (h:l.Nodup) {i j:Nat} (hi:i<l.length) (hj:j<l.length) (e:l[i]=l[j]):i=j:=by
 have hp:=A2.1 h;rcases Nat.lt_trichotomy i j with g | g | g
 ·exact absurd e (hp i j hi hj g)
 ·exact g
 ·exact absurd e.symm (hp j i hj hi g)
theorem ON {α:Type} [DecidableEq α]: ∀ {a l:List α},a.Nodup->(∀r∈a,r∈l)->a.length<=l.length
 | [],_,_,_=>Zb
 | x::a,l,hn,hs=>by
  rw [List.nodup_cons] at hn;have hx:=hs x Zb;have ih:=ON (l:=l.erase x) hn.2 fun r hr=>(List.mem_erase_of_ne (by rintro rfl;exact hn.1 hr)).2 (hs r (by simp [hr]));rw [List.length_erase_of_mem hx] at ih;have:=List.length_pos_of_mem hx;simp only [Zz];omega
theorem nH {α:Type} {a l:List α} (hn:a.Nodup) (hs: ∀r∈a,r∈l) (hl:a.length=l.length): ∀r,r∈a↔r∈l:=by
 classical
 refine fun r=>⟨hs r,fun hr=>Classical.byContradiction fun hna=> ?_⟩;have:=ON (l:=l.erase r) hn fun s h=>(List.mem_erase_of_ne (by rintro rfl;exact hna h)).2 (hs s h);rw [List.length_erase_of_mem hr] at this;have:=List.length_pos_of_mem hr;omega
theorem Eg {x:Inst} {b:Rte} {S:Nat} {c:Col} (h:c∈Bi x b S):c.typ=b.typ/\c.set=(S:Int)/\ColG x c/\c=(Ar x b S).1:=by
 unfold Bi at h
 split at h
 ·rename_i hz
  have e:c=(Ar x b S).1:=by simpa using h
  obtain ⟨m,_,m2,m3⟩:=GM hz
  have hc:c=VW x b S m:=by rw [e,m3]
  refine ⟨by rw [hc];rfl,by rw [hc];rfl,?_,e⟩;rw [hc];simp only [CD,Zy,Zp] at m2;have hev:=Gp m2.2.2;refine ⟨hev,rfl,rfl,?_⟩;have h1:=m2.2.1;rw [ordR] at h1
  split at h1
  ·exact h1.symm
  ·rename_i hno;have:=m2.1;rw [ordR,if_neg hno] at this
   cases this
 ·simp at h
def uB (bs:List Rte) (b:Rte) (S:Nat):Prop:= ∀r∈bs,∀v∈r.visits,S.testBit v.order.toNat=true↔r=b
theorem FO {x:Inst} {b:Rte} {need wout:Nat} {c:Col} :c∈Je x b need wout↔ ∃S,0<S/\S<2^x.orders.length/\Aa need wout S=true/\c∈Bi x b S:=by
 have hp1:1<=2^x.orders.length:=Nat.one_le_two_pow;rw [Je,Ex]
 constructor
 ·rintro ⟨S,h1,h2,h3⟩;unfold DL at h3
  split at h3
  ·rename_i hf;exact ⟨S,Za,Za,hf,h3⟩
  ·simp at h3
 ·rintro ⟨S,h1,h2,h3,h4⟩;exact ⟨S,Za,Za,by rw [DL,if_pos h3];exact h4⟩
theorem O2 {x:Inst} {bs:List Rte} {c:Col} : ∀k,k<=bs.length->(c∈Ib x bs k↔ ∃a,a<k/\ ∃S,0<S/\S<2^x.orders.length/\M0 bs (a:Int) S=true/\c∈Bi x (nth bs a) S)
 | 0,_=>by simp [Ib]
 | k+1,hk=>by
  rw [Ib,Xr,O2 k Za,FO]
  constructor
  ·rintro (⟨a,h1,h2⟩ | ⟨S,h1,h2,h3,h4⟩)
   ·exact ⟨a,Za,h2⟩
   ·exact ⟨k,Za,S,h1,h2,by rw [Ot Za];exact h3,h4⟩
  ·rintro ⟨a,h1,S,h2,h3,h4,h5⟩;rcases Vn a k with h | h
   ·exact .inl ⟨a,h,S,h2,h3,h4,h5⟩
   ·obtain rfl:a=k:=Za
    exact .inr ⟨S,h2,h3,by rw [<- Ot Za];exact h4,h5⟩
theorem O4 {x:Inst} {bs:List Rte} {now:Int} {c:Col} : ∀k,c∈Nq x bs now k↔c∈Ib x bs bs.length\/ ∃t:Nat,t<k/\ ∃S,0<S/\S<2^x.orders.length/\M0 bs (-1) S=true/\c∈Bi x (Ad (t:Int) now) S
 | 0=>by simp [Nq]
 | k+1=>by
  rw [Nq,Xr,O4 k,FO]
  constructor
  ·rintro ((h | ⟨t,h1,h2⟩) | ⟨S,h1,h2,h3,h4⟩)
   ·exact .inl h
   ·exact .inr ⟨t,Za,h2⟩
   ·exact .inr ⟨k,Za,S,h1,h2,by rw [Ou];exact h3,h4⟩
  ·rintro (h | ⟨t,h1,S,h2,h3,h4,h5⟩)
   ·exact .inl (.inl h)
   ·rcases Vn t k with h | h
    ·exact .inl (.inr ⟨t,h,S,h2,h3,h4,h5⟩)
    ·obtain rfl:t=k:=Za
     exact .inr ⟨S,h2,h3,by rw [<- Ou];exact h4,h5⟩
theorem Bn {x:Inst} {bs:List Rte} {now:Int} (hd:Dis bs) {c:Col} :c∈HH x bs now↔(∃b,b∈bs/\ ∃S,0<S/\S<2^x.orders.length/\uB bs b S/\c∈Bi x b S) \/
  ∃t:Nat,t<x.types.length/\ ∃S,0<S/\S<2^x.orders.length/\(∀r∈bs,∀v∈r.visits,S.testBit v.order.toNat=false)/\c∈Bi x (Ad (t:Int) now) S:=by
 have hnd:=hd.nodup;rw [HH,O4,O2 _ (Zx _)];refine or_congr ?_ ?_
 ·have key: ∀a,a<bs.length-> ∀S,M0 bs (a:Int) S=true↔uB bs (nth bs a) S:=fun a ha S=>by
   rw [AP]
   constructor
   ·intro h r hr v hv;obtain ⟨i,hi,rfl⟩:=ZW.1 hr;rw [<- Zh hi] at hv ⊢;rw [h i hi v hv,Zp]
    constructor
    ·intro e;rw [show i=a by omega]
    ·intro e;rw [Zh hi,Zh ha] at e;have:=OW hnd _ _ e;omega
   ·intro h i hi v hv;have:=h _ (Zo hi) v hv;rw [Yp,this,Zp]
    constructor
    ·intro e;rw [Zh hi,Zh ha] at e;have:=OW hnd _ _ e;omega
    ·intro e;rw [show i=a by omega]
  constructor
  ·rintro ⟨a,ha,S,h1,h2,h3,h4⟩;exact ⟨_,Zo ha,S,h1,h2,(key a ha S).1 h3,h4⟩
  ·rintro ⟨b,hb,S,h1,h2,h3,h4⟩;obtain ⟨a,ha,rfl⟩:=ZW.1 hb;rw [<- Zh ha] at h3 h4;exact ⟨a,ha,S,h1,h2,(key a ha S).2 h3,h4⟩
 ·refine exists_congr fun t=>and_congr_right fun _=>exists_congr fun S=>and_congr_right fun _=>and_congr_right fun _=>and_congr_left fun _=> ?_;rw [AP]
  constructor
  ·intro h r hr v hv;obtain ⟨i,hi,rfl⟩:=ZW.1 hr;rw [<- Zh hi] at hv;rw [h i hi v hv,Yd Za]
  ·intro h i hi v hv;rw [h _ (Zo hi) v hv,Yd Za]
theorem eL {x:Inst} {bs bs':List Rte} {now:Int} (hd:Dis bs) (hd':Dis bs') (hm: ∀r,r∈bs↔r∈bs') (c:Col):c∈HH x bs now↔c∈HH x bs' now:=by
 rw [Bn hd,Bn hd'];simp only [uB,hm]
theorem ZgU {x:Inst} {bs:List Rte} {now:Int} (hd:Dis bs) {c:Col} (h:c∈HH x bs now):ColG x c:=by
 rcases (Bn hd).1 h with ⟨b,_,S,_,_,_,h⟩ | ⟨t,_,S,_,_,_,h⟩<;>exact (Eg h).2.2.1
theorem ZaC {x:Inst} {bs:List Rte} {now:Int} (hd:Dis bs) {c d:Col} (hc:c∈HH x bs now) (hd2:d∈HH x bs now) (e:kd c=kd d):c=d:=by
 have e1:c.typ=d.typ:=ZV Kd.typ e;have e2:c.set=d.set:=ZV Kd.set e
 rcases (Bn hd).1 hc with ⟨b,hb,S,_,_,f,h⟩ | ⟨t,_,S,_,_,f,h⟩<;>rcases (Bn hd).1 hd2 with ⟨b',hb',S',_,_,f',h'⟩ | ⟨t',_,S',_,_,f',h'⟩ <;>
  obtain ⟨a1,a2,_,a4⟩:=Eg h<;>obtain ⟨b1,b2,_,b4⟩:=Eg h'<;>obtain rfl:S=S':=Za
 ·obtain ⟨v,hv⟩:=CZ _ (hd.ne _ hb);have:=(f' b hb v hv).1 ((f b hb v hv).2 rfl);subst this;rw [a4,b4]
 ·obtain ⟨v,hv⟩:=CZ _ (hd.ne _ hb);have:=(f b hb v hv).2 rfl;rw [f' b hb v hv] at this;cases this
 ·obtain ⟨v,hv⟩:=CZ _ (hd.ne _ hb');have:=(f' b' hb' v hv).2 rfl;rw [f b' hb' v hv] at this;cases this
 ·have:(t:Int)=(t':Int):=by
   have g1:(Ad (t:Int) now).typ=(t:Int):=rfl;have g2:(Ad (t':Int) now).typ=(t':Int):=rfl;omega
  obtain rfl:t=t':=Za
  rw [a4,b4]
set_option maxRecDepth 60000
theorem PL {y:Inst} {P:Pln} {S:Nat} :Jd (Jd y P S) P S=Jd y P S:=by
 have hl:(Jd y P S).orders.length=y.orders.length:=Wx
 have hk:KN (Jd y P S) P=KN y P:=by rw [KN,KN,hl]
 have ho:Wm (Ts (Jd y P S) P S) (Jd y P S).orders.length=Wm (Ts y P S) y.orders.length:=by
  rw [hl];refine Q6 fun j hj=> ?_;have e:nth (Jd y P S).orders j=Ts y P S j:=JV hj;simp only [Ts,E7,hk,e]
  split<;>rfl
 show ({ Jd y P S with orders_c:=false,orders:=Wm (Ts (Jd y P S) P S) (Jd y P S).orders.length } :Inst)=Jd y P S
 rw [ho];rfl
theorem PP {l l':List Rte} (h: ∀r,r∈l↔r∈l'):Z1 l=Z1 l':=JB fun i=>by
 rw [Yp,Vz,Vz];simp only [h]
theorem LF {x:Inst} {now:Int} {l:List Rte} {k:Nat} {r:Rte} (h:r∈pfxL x now k l):r.rests_c=false/\r.visits_c=false:=by
 obtain ⟨j,_,rfl,_⟩:=De k h;exact ⟨rfl,rfl⟩
theorem mW {a b:Rte} (h:YW a b=true) (ha:a.rests_c=false/\a.visits_c=false) (hb:b.rests_c=false/\b.visits_c=false):a=b:=by
 obtain ⟨h1,h2,h3,h4⟩:=KF.1 h;obtain ⟨a1,a2,a3,a4,a5,a6⟩:=a;obtain ⟨b1,b2,b3,b4,b5,b6⟩:=b;simp only at h1 h2 h3 h4 ha hb;obtain ⟨rfl,rfl⟩:=ha;obtain ⟨rfl,rfl⟩:=hb;subst h1 h2 h3 h4
 rfl
theorem Hu (c:Cas) (hw:c.wf 1048576) :
  PC 8 [.p (kD c)] (.bool true):=by
 have haw:=PI;refine QB [] Tryz.func8 rfl ZkY ?_;simp (disch:=omega) only [Tryz.f8,go_sem,seval];refine Za4 (jZ c hw) fun b fl l hl hd=> ?_;simp (disch:=omega) only [go_sem,seval]
 cases b with
 | false =>
  simp (disch:=omega) only [Q3,go_sem,seval];refine (haw).use ?_;simp (disch:=omega) only [go_sem,seval]
 | true =>
  simp (disch:=omega) only [VY,go_sem,seval];have hD:=hd rfl;have hy:=hD.y.2.2.2.2.2.2
  have hy1:c.y.orders.length<=3:=by have:=hD.y.1;omega
  have hnow:=hD.now;obtain ⟨p1,p2,p3⟩:=HV hD.sm;obtain ⟨bs,hor,hln⟩:=tT hD hl.2
  have hdis:Dis l:=by rw [hD.eq];exact O5 hD.chk
  have hflag: ∀r∈l,r.rests_c=false/\r.visits_c=false:=fun r hr=>by rw [hD.eq] at hr;exact LF hr
  have h6:=NQ hy;have hbl:c.y.before.length<=1048576:=hw.2.2.2.2.2.2.2.2.2.2.1
  have hvs: ∀r∈c.p.routes,r.visits.length<=1048576:=fun r h=>by have:=p3 r h;omega
  have hbb: ∀r∈l,r.visits.length<=1048576/\ordR r.visits=(((ordS r.visits:Nat):Int),0)/\ ∀v∈r.visits,0<=v.order/\v.order<62:=fun r h=>⟨by have:=hln r h;omega,hor r h,bs.ord r h⟩;have cr:=PN c.y c.p l fl Za Za Za hvs Za hbb;have cs:=Gv c.y c.p l fl c.now hy Za hbl Za hvs hor bs hnow;unfold pU at cr
  by_cases h0:YI c.y c.p=0
  ·have hYo:(Jd c.y c.p (Z1 l)).orders.length=c.y.orders.length:=Wx;have hYt:(Jd c.y c.p (Z1 l)).types=c.y.types:=rfl;have hYb:(Jd c.y c.p (Z1 l)).before=c.y.before:=rfl
   have hYk:YI (Jd c.y c.p (Z1 l)) c.p=0:=by
    have: ∀r,VN (Jd c.y c.p (Z1 l)) r=VN c.y r:=fun r=>by simp only [VN,hYo,hYt]
    rw [YI,show VN (Jd c.y c.p (Z1 l))=VN c.y from funext this];exact h0
   have hY:=Tq (S:=Z1 l) hy h0;have hY2:=PL (y:=c.y) (P:=c.p) (S:=Z1 l);simp only [if_pos h0,h0] at cr;have hP':=fun p n e (h:rF (Mp (Jd c.y c.p (Z1 l)) (HH (Jd c.y c.p (Z1 l)) l c.now)) (YI c.y c.p) p n e)=>h.1 h0;generalize Jd c.y c.p (Z1 l)=Y at cs cr hY hY2 hYo hYt hYb hYk hP';obtain ⟨_,hset⟩:=Np (x:=Y) (bs:=l) (now:=c.now) Za (by rw [hYt];exact h6) bs.len;refine H6 cs fun p n e hP=> ?_;have hP:=hP' p n e hP;simp (disch:=omega) only [go_sem,seval];refine WV cr ?_;simp (disch:=omega) only [go_sem,seval]
   refine gF ?_ ?_<;>intro h4<;>simp (disch:=omega) only [Sh.out h4,go_sem,seval]
   ·refine (haw).use ?_;simp (disch:=omega) only [go_sem,seval]
   ·have he:e=0:=Za
    subst he;obtain ⟨v1,_,v3⟩:=SA hY Za hset (fun d hd=>ZgU hdis hd) hP;have hfit:=(HS hY Za v1).2
    have hrb: ∀r∈p.routes,Q7 r:=fun r hr=>by
     obtain ⟨d,hdm,rfl⟩:=v3 r hr;exact mE (x:=Y) Za hln hdm
    have cp:=Bs Y p c.now hY Za hrb;rw [eM,if_neg Za,if_pos (DF.2 (Vj v1).1)] at cp;have hdis2:Dis (pfxL Y c.now p.routes.length p.routes):=O5 v1;have hfl2: ∀r∈pfxL Y c.now p.routes.length p.routes,r.rests_c=false/\r.visits_c=false:=fun r hr=>LF hr;have hlen2:=JO (x:=Y) (now:=c.now) (l:=p.routes) p.routes.length
    have hrb2: ∀r∈pfxL Y c.now p.routes.length p.routes,Q7 r:=fun r hr=>by
     obtain ⟨r2,h2,rfl,_⟩:=Bo _ (Zx _) hr;have:=(AR hY ((Vj v1).1 _ h2) (hrb _ h2).1).len;have h3:=Ek (x:=Y) (now:=c.now) this;have h5:=(WM ((Vj v1).1 _ h2)).len (V3 hY);have h7:=Di Y (ordS r2.visits) Y.orders.length;exact ⟨Za,Za⟩
    generalize pfxL Y c.now p.routes.length p.routes=ag at cp hdis2 hfl2 hlen2 hrb2;refine WV cp ?_;simp (disch:=omega) only [go_sem,seval];refine (iC ag l false fl Za Za hrb2 hl.2).use ?_;simp (disch:=omega) only [go_sem,seval]
    cases X9:Iq ag l with
    | false =>
     simp (disch:=omega) only [Q3,go_sem,seval];refine (haw).use ?_;simp (disch:=omega) only [go_sem,seval]
    | true =>
     simp (disch:=omega) only [VY,go_sem,seval]
     have hm: ∀r,r∈ag↔r∈l:=by
      simp only [Iq,Zy,Zu,W1,Zp] at X9;refine nH hdis2.nodup (fun r hr=> ?_) X9.2;obtain ⟨s,hs,e⟩:=X9.1 r hr;rw [mW e (hfl2 r hr) (hflag s hs)];exact hs
     have hlen3:ag.length=l.length:=by
      simp only [Iq,Zy,Zp] at X9;exact X9.2
     have bs2:BsOk Y ag:=⟨by have:=bs.len;omega,fun r hr=>by rw [hYt];exact bs.typ r ((hm r).1 hr),fun r hr=>bs.bnd r ((hm r).1 hr),fun r hr=>bs.ord r ((hm r).1 hr)⟩;have cs3:=Gv Y c.p ag false c.now hY Za (by rw [hYb];exact hbl) Za hvs (fun r hr=>hor r ((hm r).1 hr)) bs2 hnow;rw [PP hm,hY2,hYk] at cs3;obtain ⟨hl3,_⟩:=Np (x:=Y) (bs:=ag) (now:=c.now) Za (by rw [hYt];exact h6) bs2.len;refine H6 cs3 fun q m f hQ=> ?_;have hQ:=hQ.1 rfl;obtain ⟨rfl,rfl⟩:=jR hY Za hset (fun d=>eL hdis hdis2 (fun r=>(hm r).symm) d) (fun a ha b hb=>ZaC hdis ha hb) Za hP hQ
     have hsm:CI q q=true:=Gz rfl (fun k _=>KF.2 ⟨rfl,rfl,rfl,rfl⟩) rfl;simp (disch:=omega) only [go_sem,seval];refine (LY q q ⟨Za,Za,hrb⟩ ⟨Za,Za,hrb⟩).use ?_;simp (disch:=omega) only [go_sem,seval];simp (disch:=omega) only [hsm,go_sem,seval];refine (haw).use ?_;simp (disch:=omega) only [go_sem,seval]
     try simp [hsm]
  ·have hP':=fun p n e (h:rF (Mp (Jd c.y c.p (Z1 l)) (HH (Jd c.y c.p (Z1 l)) l c.now)) (YI c.y c.p) p n e)=>(h.2 h0).2.2;refine H6 cs fun p n e hP=> ?_;have he:=hP' p n e hP;simp (disch:=omega) only [go_sem,seval];refine WV cr ?_;simp (disch:=omega) only [go_sem,seval];refine gF ?_ ?_<;>intro h4<;>simp (disch:=omega) only [Sh.out h4,go_sem,seval]
   ·refine (haw).use ?_;simp (disch:=omega) only [go_sem,seval]
   ·omega
end Go.Proofs.YtiigdaohjanidaaGreatDoor.K
