/- Declarations that the closing texts need, part 26: joined by tools/slim.py. -/
import Derived.Test.YtiigdaohjanidaaGreatDoorP25
import Derived.Shelf.Slices.In.SortNone
import Derived.Shelf.Sort.Plain
set_option linter.unusedVariables false
set_option linter.unusedSimpArgs false
namespace Go.Proofs.YtiigdaohjanidaaGreatDoor.K
open Go Go.AM Go.Proofs
set_option maxRecDepth 8000
def IQ (x:Inst) (l:List Col) (g:List Int) (k:Nat):Int:=if (nth x.orders k).off=true then 0 else if 0<=nth g k then (if A4 (nth l (nth g k).toNat).set.toNat=(k:Int) then (nth l (nth g k).toNat).price else 0) else skR x k
def Tc (x:Inst) (l:List Col) (g:List Int):Nat->Int
 | 0=>0
 | d+1=>IQ x l g (x.orders.length-(d+1))+Tc x l g d
theorem Em {x:Inst} {l ys:List Col} (hc:Ctx x l ys): ∀(d:Nat) (a:List Int) (s:St) (p:Int),d<=x.orders.length->Nd x l a s (x.orders.length-d)->(∀T:Nat,T<x.types.length->(usdI l a T x.orders.length:Int)<=(nth x.types T).count)-> ∀q∈Hv x l d a p,
  (∀T:Nat,T<x.types.length->(usdI l q.1 T x.orders.length:Int)<=(nth x.types T).count)/\(∀t,x.orders.length-d<=t->t<x.orders.length->(nth x.orders t).off=true\/0<=nth q.1 t\/0<=(nth x.orders t).penalty)/\q.2=p+Tc x l q.1 d
 | 0,a,s,p,_,h,hu,q,hq=>by
  simp only [Hv,X2,Jz,or_false] at hq
  grind [Tc]
 | d+1,a,s,p,hd,h,hu,q,hq=>by
  obtain ⟨k,hk⟩: ∃k,k=x.orders.length-(d+1):=⟨_,rfl⟩
  have hkn:k<x.orders.length:=Za
  have hk1:x.orders.length-d=k+1:=Za
  rw [<- hk] at h ⊢;rw [Hv,<- hk] at hq;rw [Tc,<- hk];have old:=fun (a:List Int) (p:Int) (hl:a.length=x.orders.length) (hq:q∈Hv x l d a p)=>(Az d a p Za hl q hq).2 k hkn (.inl Za)
  split at hq
  ·rename_i ho;obtain ⟨i1,i2,i3⟩:=Em hc d a (Ex s) p Za (by rw [hk1];exact h.skip' hkn) hu q hq;have e:=old a p h.len hq;refine ⟨i1,fun t h1 h2=> ?_,?_⟩
   ·grind
   ·have z:IQ x l q.1 k=0:=by
     unfold IQ;rcases ho with ho | ho
     ·grind
     ·split
      ·rfl
      ·rw [e,if_pos ho,if_neg fun htz=> ?_];obtain ⟨t,t1,t2⟩:=h.old k hkn (Zv _) ho;have hr:=h.rng k hkn;obtain ⟨_,s0,s1,_⟩:=hc.set (ZF (l:=l) (i:=(nth a k).toNat) Za);have:=((Ge s0 s1 hc.n4 hkn).1 htz).2 t Za t2;omega
    omega
  ·rename_i ho;have hoff: ¬(nth x.orders k).off=true:=fun e=>ho (.inl e);have hak:nth a k<0:=Int.not_le.1 fun g=>ho (.inr g);rw [Xo,Ws] at hq;rcases hq with ⟨j,hj,hq⟩ | hq
   ·have hj:=ZP.1 hj
    split at hq
    ·rename_i hcan;obtain ⟨hy,htz⟩:=(II hc h hkn hj).1 hcan;have hch:=h.child hc hkn hj hcan;obtain ⟨c1,c2⟩:=K9 h.len hcan;have hcan':=hcan;simp only [EW,Zy,Zp,Cr,h.len] at hcan';obtain ⟨hb,hcnt,hneg⟩:=hcan'
     have hfr: ∀i,i<x.orders.length->(nth l j).set.toNat.testBit i=false->nth a i≠(j:Int):=fun i hi _ e=>by
      have:=h.grp i hi Za k hkn (by simp_all);omega
     obtain ⟨i1,i2,i3⟩:=Em hc d _ _ _ Za (by rw [hk1];exact hch) (fun T hT=>by
      rw [AL h.len hkn hb hneg hfr T _ (Zv _)];have h0:=hu T hT
      by_cases e:(nth l j).typ=(T:Int)
      ·rw [if_pos ⟨hkn,e⟩]
       grind [XO]
      grind) q hq
     have e:=old _ _ (by rw [KR];exact h.len) hq;rw [XL (by rw [h.len];exact hkn),if_pos c1] at e;refine ⟨i1,fun t h1 h2=> ?_,?_⟩
     ·grind
     ·have z:IQ x l q.1 k=(nth l j).price:=by
       unfold IQ;rw [if_neg hoff,e,if_pos Za,XO,if_pos htz]
      omega
    ·simp at hq
   ·split at hq
    ·rename_i hpen;obtain ⟨i1,i2,i3⟩:=Em hc d a (Ex s) _ Za (by rw [hk1];exact h.skip' hkn) hu q hq;have e:=old a _ h.len hq;refine ⟨i1,fun t h1 h2=> ?_,?_⟩
     ·grind
     ·have z:IQ x l q.1 k=skR x k:=by
       simp_all [IQ,if_neg]
      omega
    ·simp at hq
theorem zV {x:Inst} {l ys:List Col} (hc:Ctx x l ys) {g:List Int} {s:St} (hg:Nd x l g s x.orders.length) {k:Nat} (hk:k<x.orders.length) (h0:0<=nth g k):OU g k=true↔A4 (nth l (nth g k).toNat).set.toNat=(k:Int):=by
 have hr:=hg.rng k hk;obtain ⟨_,s0,s1,_⟩:=hc.set (ZF (l:=l) (i:=(nth g k).toNat) Za);rw [BY,Ge s0 s1 hc.n4 hk]
 constructor
 ·intro h;refine ⟨hg.own k hk h0,fun i hi hb=>Nat.le_of_not_lt fun hlt=>h i hlt (hg.grp k hk h0 i hi hb)⟩
 ·rintro ⟨_,h⟩ t ht e;have h2:=hg.own t Za Za
  grind
theorem cC {x:Inst} {l ys:List Col} (hc:Ctx x l ys) {g:List Int} {s:St} (hg:Nd x l g s x.orders.length) (T:Int): ∀d k,k+d=x.orders.length->(RA l g d k).countP (fun c=>decide (c.typ=T))+usdI l g T k=usdI l g T (k+d)
 | 0,k,_=>by simp [RA]
 | d+1,k,h=>by
  have ih:=cC hc hg T d (k+1) Za
  have hk:k<x.orders.length:=Za
  rw [RA,List.countP_append,show k+(d+1)=k+1+d by omega,<- ih,usdI,DZ]
  by_cases h0:0<=nth g k
  ·have hf:=zV hc hg hk h0
   by_cases ht:A4 (nth l (nth g k).toNat).set.toNat=(k:Int)
   ·rw [if_pos ⟨h0,ht⟩,hf.2 ht,Yk h0]
    by_cases hT:(nth l (nth g k).toNat).typ=T
    ·simp [hT];omega
    ·simp [hT]
   ·rw [if_neg fun e=>ht e.2,show OU g k=false from by
     cases e:OU g k with
     | false=>rfl
     | true=>exact absurd (hf.1 e) ht]
    simp
  ·rw [if_neg fun e=>h0 e.1,XK h0];simp
theorem Bc {α:Type} {p:α->Bool} : ∀ {l:List α},(l.Pairwise fun a b=> ¬(p a=true/\p b=true))->l.countP p<=1
 | [],_=>Zb
 | a::l,h=>by
  rw [List.pairwise_cons] at h;have ih:=Bc h.2;rw [List.countP_cons]
  split
  ·rename_i ha;have:l.countP p=0:=Ce.2 fun b hb hpb=>h.1 b hb ⟨ha,hpb⟩;omega
  ·omega
theorem ZkZ : ∀S:Fin 16,0<S.val-> ∃k:Fin 4,A4 S.val=(k.val:Int)/\S.val.testBit k.val=true:=by decide+kernel
theorem wY {x:Inst} {l ys:List Col} (hc:Ctx x l ys) {g:List Int} {s:St} (hg:Nd x l g s x.orders.length) {i:Nat} (hi:i<x.orders.length):(RA l g x.orders.length 0).countP (fun c=>c.set.toNat.testBit i)=if 0<=nth g i then 1 else 0:=by
 have hin: ∀t,t<x.orders.length->0<=nth g t->nth l (nth g t).toNat∈l:=fun t ht h0=>ZF (by have:=hg.rng t ht;omega)
 split
 ·rename_i h0;refine Nat.le_antisymm (Bc ?_) (Va.2 ?_)
  ·refine (cB x.orders.length 0).imp_of_mem fun {a b} ha hb h hh=> ?_;obtain ⟨t,_,t1,t2,t3,rfl⟩:=(A7 _ _).1 ha;obtain ⟨u,_,u1,u2,u3,rfl⟩:=(A7 _ _).1 hb;have e1:=hg.grp t Za t2 i hi hh.1;have e2:=hg.grp u Za u2 i hi hh.2
   grind
  ·have hm:=hin i hi h0;obtain ⟨_,s0,s1,s2⟩:=hc.set hm;have h16:(nth l (nth g i).toNat).set.toNat<16:=Ku s1 (Y1 (n:=2) Za hc.n4);obtain ⟨k,k1,k2⟩:=ZkZ ⟨_,h16⟩ s0;simp only at k1 k2;have hk:=(s2 _ k2).1;have e:=hg.grp i hi h0 k.val hk k2;refine ⟨nth l (nth g i).toNat,(A7 _ _).2 ⟨k.val,Za,Za,Za,by grind,by rw [e]⟩,hg.own i hi h0⟩
 ·rename_i h0;refine Ce.2 fun c hcm hb=>h0 ?_;obtain ⟨t,_,t1,t2,t3,rfl⟩:=(A7 _ _).1 hcm;rw [hg.grp t Za t2 i hi hb];exact t2
theorem EC {x:Inst} {g:List Int} {u:Int} : ∀d k,u∈UA x g d k↔ ∃i,k<=i/\i<k+d/\nth g i<0/\(nth x.orders i).off=false/\u=(i:Int)
 | 0,k=>by simp [UA];omega
 | d+1,k=>by
  rw [UA,Xo,EC d (k+1)]
  grind
theorem cH {x:Inst} {g:List Int} : ∀d k,(UA x g d k).Pairwise fun a b=>a<b
 | 0,k=> .nil
 | d+1,k=>by
  rw [UA,El];refine ⟨?_,cH d (k+1),fun a ha b hb=> ?_⟩
  ·split<;>simp
  ·split at ha
   ·obtain ⟨i,h1,h2,h3,h4,rfl⟩:=(EC _ _).1 hb
    grind
   ·simp at ha
theorem wZ {x:Inst} {g:List Int} {i:Nat} (hi:i<x.orders.length):(UA x g x.orders.length 0).countP (fun u=>decide (u=(i:Int)))=if nth g i<0/\(nth x.orders i).off=false then 1 else 0:=by
 split
 ·rename_i h;refine Nat.le_antisymm (Bc ((cH _ _).imp fun {a b} h hh=> ?_)) (Va.2 ⟨(i:Int),(EC _ _).2 ⟨i,Za,Za,h.1,h.2,rfl⟩,Zb⟩)
  grind
 ·rename_i h;refine Ce.2 fun u hu e=>h ?_;obtain ⟨j,_,j1,j2,j3,rfl⟩:=(EC _ _).1 hu
  grind
theorem cE {x:Inst} {l ys:List Col} (hc:Ctx x l ys) {g:List Int} {s:St} (hg:Nd x l g s x.orders.length): ∀d k,k+d=x.orders.length->((RA l g d k).map (·.price)).sum+((UA x g d k).map fun u=>skR x u.toNat).sum=Tc x l g d
 | 0,k,_=>by rfl
 | d+1,k,h=>by
  have ih:=cE hc hg d (k+1) Za
  have hk:k<x.orders.length:=Za
  rw [RA,UA,Tc,<- ih,XA,XA,Cl,Cl,show x.orders.length-(d+1)=k by omega]
  have key:((if 0<=nth g k/\A4 (nth l (nth g k).toNat).set.toNat=(k:Int) then [nth l (nth g k).toNat] else []).map (·.price)).sum+((if nth g k<0/\(nth x.orders k).off=false then [(k:Int)] else []).map fun u=>skR x u.toNat).sum=IQ x l g k:=by
   unfold IQ
   by_cases h0:0<=nth g k
   ·have hr:=hg.rng k hk;have ho:(nth x.orders k).off=false:=((hc.set (ZF (l:=l) (i:=(nth g k).toNat) Za)).2.2.2 k (hg.own k hk h0)).2
    have e0: ¬(nth g k<0/\(nth x.orders k).off=false):=fun e=>Za
    have e1: ¬(nth x.orders k).off=true:=by rw [ho];simp
    rw [if_neg e0,if_neg e1,if_pos h0]
    by_cases ht:A4 (nth l (nth g k).toNat).set.toNat=(k:Int)
    ·rw [if_pos ⟨h0,ht⟩,if_pos ht];simp
    ·rw [if_neg fun e=>ht e.2,if_neg ht];simp
   ·rw [if_neg fun e=>h0 e.1]
    cases ho:(nth x.orders k).off with
    | true=>simp
    | false=>rw [if_pos ⟨Za,rfl⟩,if_neg Zb,if_neg h0];simp
  omega
theorem kU {l m:List Int} (h:l.Perm m):l.sum=m.sum:=by
 induction h with
 | nil=>rfl
 | cons a _ ih=>grind
 | swap a b l=>grind
 | trans _ _ h1 h2=>omega
set_option maxHeartbeats 8000000
structure ColG (x:Inst) (c:Col):Prop where
 ev:evalE x c.route=0
 ty:c.route.typ=c.typ
 pr:(prcF x c.route).1=c.price
 st:c.set=((ordS c.route.visits:Nat):Int)
theorem H7 {x:Inst} {L:List Col} {p:Pln} {c:Int} (hx:InstOk x) (hn:x.orders.length<=4) (hs: ∀c∈L,c.set<9223372036854775808) (hL: ∀c∈L,ColG x c) (h:Oc x L p c 0) :
  chkP x p=0/\Xn (Uy x p)=(c,0)/\ ∀r∈p.routes,∃d∈L,r=d.route:=by
 rcases h with ⟨_,_,_,g⟩ | ⟨_,_,_,_,g⟩ | ⟨_,hr,ys,g3,_,g5⟩
 ·cases g
 ·cases g
 ·obtain ⟨D,hD⟩: ∃D:Nat,D=20:=⟨20,rfl⟩;have hc:=eZ hx hn g3 hr hs;rw [Mb hD] at g5;rcases g5 with ⟨_,_,_,g⟩ | ⟨g6,rfl,_,zs,hp,ha,rfl⟩
  ·cases g
  ·have hz:=RW x (L);have hpk:=Et hc hD x.orders.length 0 zSt _ 20 Za Za hz;obtain ⟨s',hg⟩:=Rx hc (D:=D) x.orders.length 0 zSt _ Za hz;have hin:=Rw hc (D:=D) Za x.orders.length 0 zSt _ 0 Za hz g6;rw [Aw] at hin
   have hend:=Em hc x.orders.length _ zSt 0 (Zv _) (by rw [Ay];exact hz) (fun T hT=>by
    rw [LB _ (Zv _)];have ht:=hx.types.2 T hT;obtain ⟨⟨⟨⟨⟨⟨⟨⟨_,_⟩,h1⟩,_⟩,_⟩,_⟩,_⟩,_⟩,_⟩:=ht;simp only [rng,Zp] at h1
    omega) _ hin
   simp only [mI] at hpk;rw [hpk] at hp ⊢;simp only at hp ⊢
   generalize gr x (L) ys D x.orders.length 0 zSt (List.replicate x.orders.length (-1))=g at *
   obtain ⟨q1,q2,q3⟩:=hend;simp only at q1 q2 q3;rw [Aw] at q3
   have hmem: ∀c∈zs,c∈L:=fun c hcm=>by
    rw [hp.mem_iff,A7] at hcm;obtain ⟨i,_,i1,i2,_,rfl⟩:=hcm;exact ZF (by have:=hg.rng i Za;omega)
   have hrt: ∀c∈zs,evalE x c.route=0/\c.route.typ=c.typ/\(prcF x c.route).1=c.price/\RightV x c.route.visits/\(∀i:Nat,hasO c.route.visits (i:Int)=c.set.toNat.testBit i):=fun c hcm=>by
    obtain ⟨h1,h2,h3,h4⟩:=hL c (hmem c hcm);have hR:RightV x c.route.visits:=YD h1;refine ⟨h1,h2,h3,hR,fun i=> ?_⟩;rw [h4,XO,Yj,hR.bit,Z6]
   have cntr: ∀i,i<x.orders.length->Z3 (zs.map (·.route)) i=if 0<=nth g i then 1 else 0:=fun i hi=>by
    have e:(zs.map (·.route)).countP (fun r=>hasO r.visits (i:Int))=zs.countP fun c=>c.set.toNat.testBit i:=by
     rw [List.countP_map]
     exact List.countP_congr fun c hcm=>by simp only [Function.comp,(hrt c hcm).2.2.2.2 i]
    rw [Z3,e,hp.countP_eq,wY hc hg hi]
    split<;>rfl
   have cntu: ∀i,i<x.orders.length->Xx (UA x g x.orders.length 0) i=if nth g i<0/\(nth x.orders i).off=false then 1 else 0:=fun i hi=>by
    rw [Xx,wZ hi]
    split<;>rfl
   have cntt: ∀t,t<x.types.length->Wo (zs.map (·.route)) t<=(nth x.types t).count:=fun t ht=>by
    have e:(zs.map (·.route)).countP (fun r=>decide (r.typ=(t:Int)))=zs.countP fun c=>decide (c.typ=(t:Int)):=by
     rw [List.countP_map]
     exact List.countP_congr fun c hcm=>by simp only [Function.comp,(hrt c hcm).2.1]
    have h2:=cC hc hg (t:Int) x.orders.length 0 Za;rw [XV,usdI,Wu] at h2;rw [Wo,e,hp.countP_eq,h2];exact q1 t ht
   have hoffg: ∀i,i<x.orders.length->0<=nth g i->(nth x.orders i).off=false:=fun i hi h0=>by
    have hr:=hg.rng i hi;exact ((hc.set (ZF (l:=L) (i:=(nth g i).toNat) Za)).2.2.2 i (hg.own i hi h0)).2
   have hchk:chkP x ⟨false,zs.map (·.route),false,UA x g x.orders.length 0⟩=0:=by
    have c0:errR x (zs.map (·.route))=0:=MA.2 fun r hr=>by
     obtain ⟨c,hcm,rfl⟩:=Xv.1 hr;exact (hrt c hcm).1
    have c1:Um x (UA x g x.orders.length 0)=true:=by
     rw [Um,Zt];intro u hu;obtain ⟨i,_,i1,_,_,rfl⟩:=(EC _ _).1 hu;simp;omega
    have c2:QG x ⟨false,zs.map (·.route),false,UA x g x.orders.length 0⟩=false:=by
     rw [QG,XY];intro i hi;have hi:=ZP.1 hi;simp only [GE,cntr i hi,cntu i hi,Zp]
     split<;>split<;>omega
    have c3:UL x ⟨false,zs.map (·.route),false,UA x g x.orders.length 0⟩=false:=by
     rw [UL,XY];intro t ht;have:=cntt t (ZP.1 ht);simp only [Zp];omega
    have c4:UY x ⟨false,zs.map (·.route),false,UA x g x.orders.length 0⟩=false:=by
     rw [UY,XY];intro i hi;have hi:=ZP.1 hi;simp only [cntu i hi,Zy,Zp];rintro ⟨h1,h2⟩;rw [if_neg fun e=>by rw [h1] at e;cases e.2] at h2;omega
    have c5:KA x ⟨false,zs.map (·.route),false,UA x g x.orders.length 0⟩=false:=by
     rw [KA,XY];intro i hi;have hi:=ZP.1 hi;simp only [GE,cntr i hi,cntu i hi,Zy,Wc,XU,Zp];rintro ⟨h1,h2⟩
     by_cases h0:0<=nth g i
     ·rw [if_pos h0,if_neg fun e=>Za] at h2;omega
     ·rw [if_neg h0,if_pos ⟨Za,h1⟩] at h2;rcases q2 i Za hi with h | h | h
      ·rw [h1] at h;cases h
      ·omega
      ·omega
    have n1: ¬Um x (UA x g x.orders.length 0)=false:=by rw [c1];simp
    simp only [chkP,c0,c2,c3,c4,c5];rw [if_neg Zb,if_neg n1]
    rfl
   obtain ⟨hpp,hps⟩:=Dn hx hn hchk;have hfit:=(Ev hx hn hchk).1
   have hsum:(Xn (Uy x ⟨false,zs.map (·.route),false,UA x g x.orders.length 0⟩)).1=Lx x ys D zSt:=by
    rw [hps,q3,<- cE hc hg x.orders.length 0 Za]
    congr 1
    simp only [JE];rw [show zs.map ((fun r=>(prcF x r).1)∘fun c=>c.route)=zs.map (·.price) from YH fun c hcm=>(hrt c hcm).2.2.1];exact kU (hp.map _)
   refine ⟨hchk,Prod.ext hsum hfit,fun r hr=> ?_⟩;obtain ⟨c,hcm,rfl⟩:=Xv.1 hr;exact ⟨c,hmem c hcm,rfl⟩
structure Dis (l:List Rte):Prop where
 pw:l.Pairwise fun a b=> ∀v∈a.visits,∀w∈b.visits,v.order≠w.order
 ne: ∀b∈l,b.visits≠ []
theorem Dis.nodup {l:List Rte} (h:Dis l):l.Nodup:=by
 refine (h.pw.imp_of_mem fun {a b} ha _ hab e=> ?_);subst e;obtain ⟨v,hv⟩:=List.exists_mem_of_ne_nil _ (h.ne _ ha);exact hab v hv v hv rfl
theorem Dis.same {l:List Rte} (h:Dis l) {a b:Rte} (ha:a∈l) (hb:b∈l) {v w:Vis} (hv:v∈a.visits) (hw:w∈b.visits) (e:v.order=w.order):a=b:=by
 obtain ⟨i,hi,rfl⟩:=ZU.1 ha;obtain ⟨j,hj,rfl⟩:=ZU.1 hb;have hp:=Ui.1 h.pw;rcases Nat.lt_trichotomy i j with g | g | g
 ·exact absurd e (hp i j hi hj g v hv w hw)
 ·subst g;rfl
 ·exact absurd e.symm (hp j i hj hi g w hw v hv)
theorem Lj {x:Inst} {now:Int} {l:List Rte} {b:Rte} : ∀k,b∈pfxL x now k l-> ∃j,j<k/\b=Bl x now (nth l j)/\BU x (nth l j) (ZY x (nth l j)) now≠0
 | 0,h=>by simp [pfxL] at h
 | k+1,h=>by
  rw [pfxL,Xo] at h;rcases h with h | h
  ·obtain ⟨j,h1,h2⟩:=Lj k h;exact ⟨j,Za,h2⟩
  ·split at h
   ·simp at h
   ·rename_i hn;exact ⟨k,Za,by simpa using h,hn⟩
theorem rY {x:Inst} {p:Pln} {now:Int} (hk:chkP x p=0):Dis (pfxL x now p.routes.length p.routes):=by
 obtain ⟨_,k2,_⟩:=QL hk;have hr:=(VN hk).1;have sub: ∀ {r:Rte} {v:Vis},v∈(Bl x now r).visits->v∈r.visits:=fun h=>JJ h
 constructor
 ·have key: ∀k,k<=p.routes.length->(pfxL x now k p.routes).Pairwise fun a b=> ∀v∈a.visits,∀w∈b.visits,v.order≠w.order:=fun k=>by
   induction k with
   | zero=>intro _;exact .nil
   | succ k ih =>
    intro hk2;rw [pfxL,El];refine ⟨ih Za,by split<;>simp,fun a ha b hb v hv w hw e=> ?_⟩;obtain ⟨j,hj,rfl,_⟩:=Lj k ha
    have hb2:b=Bl x now (nth p.routes k):=by
     split at hb
     ·simp at hb
     ·simpa using hb
    subst hb2;have hin:=(YD (hr _ (Zo (show k<p.routes.length by omega)))).inr w (sub hw)
    have ei:((w.order.toNat:Nat):Int)=w.order:=Za
    have:=pK (p:=fun r:Rte=>hasO r.visits ((w.order.toNat:Nat):Int)) hj (show k<p.routes.length by omega) (Z6.2 ⟨v,sub hv,Za⟩) (Z6.2 ⟨w,sub hw,Za⟩);have:=k2 w.order.toNat Za;omega
  exact key _ (Zv _)
 ·intro b hb e;obtain ⟨j,hj,rfl,hn⟩:=Lj _ hb;have:=Rs (x:=x) (r:=nth p.routes j) (s:=ZY x (nth p.routes j)) (now:=now)
  have e2:(Bl x now (nth p.routes j)).visits.length=0:=by rw [e];rfl
  simp only [Bl,ZQ] at e2;omega
theorem RY {α:Type} {l:List α} (h:l.Nodup) {i j:Nat} (hi:i<l.length) (hj:j<l.length) (e:l[i]=l[j]):i=j:=by
 have hp:=Ui.1 h;rcases Nat.lt_trichotomy i j with g | g | g
 ·exact absurd e (hp i j hi hj g)
 ·exact g
 ·exact absurd e.symm (hp j i hj hi g)
theorem Ni {x:Inst} {b:Rte} {S:Nat} {c:Col} (h:c∈JQ x b S):c.typ=b.typ/\c.set=(S:Int)/\ColG x c/\c=(JZ x b S).1:=by
 unfold JQ at h
 split at h
 ·rename_i hz
  have e:c=(JZ x b S).1:=by simpa using h
  obtain ⟨m,_,m2,m3⟩:=Ib hz
  have hc:c=V4 x b S m:=by rw [e,m3]
  refine ⟨by rw [hc];rfl,by rw [hc];rfl,?_,e⟩;rw [hc];simp only [Bj,Zy,Zp] at m2;have hev:=QZ m2.2.2;refine ⟨hev,rfl,rfl,?_⟩;have h1:=m2.2.1;rw [ordR] at h1
  split at h1
  ·exact h1.symm
  ·rename_i hno;have:=m2.1;rw [ordR,if_neg hno] at this
   cases this
 ·simp at h
def Zh9 (bs:List Rte) (b:Rte) (S:Nat):Prop:= ∀r∈bs,∀v∈r.visits,S.testBit v.order.toNat=true↔r=b
theorem G9 {x:Inst} {b:Rte} {need wout:Nat} {c:Col} :c∈J0 x b need wout↔ ∃S,0<S/\S<2^x.orders.length/\Bf need wout S=true/\c∈JQ x b S:=by
 have hp1:1<=2^x.orders.length:=Nat.one_le_two_pow;rw [J0,FT]
 constructor
 ·rintro ⟨S,h1,h2,h3⟩;unfold E6 at h3
  split at h3
  ·rename_i hf;exact ⟨S,Za,Za,hf,h3⟩
  ·simp at h3
 ·rintro ⟨S,h1,h2,h3,h4⟩;exact ⟨S,Za,Za,by rw [E6,if_pos h3];exact h4⟩
theorem R6 {x:Inst} {bs:List Rte} {c:Col} : ∀k,k<=bs.length->(c∈LI x bs k↔ ∃a,a<k/\ ∃S,0<S/\S<2^x.orders.length/\OS bs (a:Int) S=true/\c∈JQ x (nth bs a) S)
 | 0,_=>by simp [LI]
 | k+1,hk=>by
  rw [LI,Xo,R6 k Za,G9]
  constructor
  ·rintro (⟨a,h1,h2⟩ | ⟨S,h1,h2,h3,h4⟩)
   ·exact ⟨a,Za,h2⟩
   ·exact ⟨k,Za,S,h1,h2,by rw [Rp Za];exact h3,h4⟩
  ·rintro ⟨a,h1,S,h2,h3,h4,h5⟩;rcases WS a k with h | h
   ·exact .inl ⟨a,h,S,h2,h3,h4,h5⟩
   ·obtain rfl:a=k:=Za
    exact .inr ⟨S,h2,h3,by rw [<- Rp Za];exact h4,h5⟩
theorem R8 {x:Inst} {bs:List Rte} {now:Int} {c:Col} : ∀k,c∈Pe x bs now k↔c∈LI x bs bs.length\/ ∃t:Nat,t<k/\ ∃S,0<S/\S<2^x.orders.length/\OS bs (-1) S=true/\c∈JQ x (Bh (t:Int) now) S
 | 0=>by simp [Pe]
 | k+1=>by
  rw [Pe,Xo,R8 k,G9]
  constructor
  ·rintro ((h | ⟨t,h1,h2⟩) | ⟨S,h1,h2,h3,h4⟩)
   ·exact .inl h
   ·exact .inr ⟨t,Za,h2⟩
   ·exact .inr ⟨k,Za,S,h1,h2,by rw [Rq];exact h3,h4⟩
  ·rintro (h | ⟨t,h1,S,h2,h3,h4,h5⟩)
   ·exact .inl (.inl h)
   ·rcases WS t k with h | h
    ·exact .inl (.inr ⟨t,h,S,h2,h3,h4,h5⟩)
    ·obtain rfl:t=k:=Za
     exact .inr ⟨S,h2,h3,by rw [<- Rq];exact h4,h5⟩
theorem Es {x:Inst} {bs:List Rte} {now:Int} (hd:Dis bs) {c:Col} :c∈Er x bs now↔(∃b,b∈bs/\ ∃S,0<S/\S<2^x.orders.length/\Zh9 bs b S/\c∈JQ x b S) \/
  ∃t:Nat,t<x.types.length/\ ∃S,0<S/\S<2^x.orders.length/\(∀r∈bs,∀v∈r.visits,S.testBit v.order.toNat=false)/\c∈JQ x (Bh (t:Int) now) S:=by
 have hnd:=hd.nodup;rw [Er,R8,R6 _ (Zv _)];refine or_congr ?_ ?_
 ·have key: ∀a,a<bs.length-> ∀S,OS bs (a:Int) S=true↔Zh9 bs (nth bs a) S:=fun a ha S=>by
   rw [BT]
   constructor
   ·intro h r hr v hv;obtain ⟨i,hi,rfl⟩:=ZU.1 hr;rw [<- Zi hi] at hv ⊢;rw [h i hi v hv,Zp]
    constructor
    ·intro e;rw [show i=a by omega]
    ·intro e;rw [Zi hi,Zi ha] at e;have:=RY hnd _ _ e;omega
   ·intro h i hi v hv;have:=h _ (Zo hi) v hv;rw [Yj,this,Zp]
    constructor
    ·intro e;rw [Zi hi,Zi ha] at e;have:=RY hnd _ _ e;omega
    ·intro e;rw [show i=a by omega]
  constructor
  ·rintro ⟨a,ha,S,h1,h2,h3,h4⟩;exact ⟨_,Zo ha,S,h1,h2,(key a ha S).1 h3,h4⟩
  ·rintro ⟨b,hb,S,h1,h2,h3,h4⟩;obtain ⟨a,ha,rfl⟩:=ZU.1 hb;rw [<- Zi ha] at h3 h4;exact ⟨a,ha,S,h1,h2,(key a ha S).2 h3,h4⟩
 ·refine exists_congr fun t=>Aq fun _=>exists_congr fun S=>Aq fun _=>Aq fun _=>and_congr_left fun _=> ?_;rw [BT]
  constructor
  ·intro h r hr v hv;obtain ⟨i,hi,rfl⟩:=ZU.1 hr;rw [<- Zi hi] at hv;rw [h i hi v hv,XK Za]
  ·intro h i hi v hv;rw [h _ (Zo hi) v hv,XK Za]
theorem wN {x:Inst} {bs:List Rte} {now:Int} (hd:Dis bs) {c:Col} (h:c∈Er x bs now):ColG x c:=by
 rcases (Es hd).1 h with ⟨b,_,S,_,_,_,h⟩ | ⟨t,_,S,_,_,_,h⟩<;>exact (Ni h).2.2.1
theorem Nj {x:Inst} {b:Rte} {S:Nat} {c:Col} (h:c∈JQ x b S): ∃m,m∈(if E4 b=true then [b.visits] else Co (CW x S) (KX x S) b.visits)/\Bj x b S m=true/\c=V4 x b S m:=by
 unfold JQ at h
 split at h
 ·rename_i hz
  have e:c=(JZ x b S).1:=by simpa using h
  unfold JZ S1 at hz e;rcases Dz _ _ hz with ⟨h1,_⟩ | ⟨m,h1,h2,h3⟩
  ·cases h1
  ·exact ⟨m,h1,h2,by rw [e,h3]⟩
 ·simp at h
theorem Dm {α:Type} [DecidableEq α] {l r:List α} :Ub (l++r) l=true:=by simp [Ub]
theorem sP {x:Inst} {b:Rte} {S:Nat} {m:List Vis} (h:m∈(if E4 b=true then [b.visits] else Co (CW x S) (KX x S) b.visits)):XR (aO b m) b=true:=by
 have hr:Ub b.rests b.rests=true:=by have:=Dm (l:=b.rests) (r:= []);rwa [Vw] at this
 split at h
 ·obtain rfl:m=b.visits:=by simpa using h
  have hv:Ub b.visits b.visits=true:=by have:=Dm (l:=b.visits) (r:= []);rwa [Vw] at this
  simp [XR,aO,hr,hv]
 ·rename_i hf;obtain ⟨r,rfl⟩:=I6 _ _ _ h
  have:b.rests.length<=b.visits.length:=by
   unfold E4 at hf;simp only [Zp] at hf;omega
  simp [XR,aO,hr,Dm,this]
theorem RS {r b:Rte} (h: ∀v∈r.visits,∀w∈b.visits,v.order≠w.order):Wv r b=false:=by
 rw [Wv,XY];intro v hv;rw [Jy,XY];intro w hw;simpa using h v hv w hw
theorem M8 {r b:Rte} {v w:Vis} (hv:v∈r.visits) (hw:w∈b.visits) (e:v.order=w.order):Wv r b=true:=by
 rw [Wv,YR];exact ⟨v,hv,YR.2 ⟨w,hw,by simpa using e⟩⟩
theorem Ix {r b:Rte} (h:XR r b=true):(r.typ=b.typ/\r.start=b.start)/\(∃s,r.visits=b.visits++s)/\(∃s,r.rests=b.rests++s)/\(b.rests.length<=b.visits.length\/(r.visits.length=b.visits.length/\r.rests.length=b.rests.length)):=by
 simp only [XR,Ub,Zy,Wc,Zp] at h;obtain ⟨h1,h2,⟨_,h3⟩,⟨_,h4⟩,h5⟩:=h;refine ⟨⟨h1,h2⟩,⟨r.visits.drop b.visits.length,?_⟩,⟨r.rests.drop b.rests.length,?_⟩,h5⟩
 ·conv=>lhs;rw [<- Ak b.visits.length r.visits,h3]
 ·conv=>lhs;rw [<- Ak b.rests.length r.rests,h4]
theorem T0 {x:Inst} {l:List Rte} {now:Int} (hx:InstOk x) (hd:Dis l) (hi: ∀b∈l,∀v∈b.visits,0<=v.order) {c:Col} (h:c∈Er x l now) :
  (∃b∈l,XR c.route b=true/\ ∀b'∈l,b'≠b->Wv c.route b'=false)\/(c.route.start=now/\ ∀b∈l,Wv c.route b=false):=by
 have hin: ∀ {S m b},Bj x b S m=true-> ∀v∈m,S.testBit v.order.toNat=true/\0<=v.order:=fun {S m b} ho v hv=>by
  obtain ⟨hr,rfl⟩:=HF (YO hx) ho;have:=hr.inr v hv;exact ⟨(hr.bit _).2 ⟨v,hv,Za⟩,this.1⟩
 rcases (Es hd).1 h with ⟨b,hb,S,_,_,f,hc⟩ | ⟨t,_,S,_,_,f,hc⟩
 ·obtain ⟨m,h1,h2,rfl⟩:=Nj hc;refine .inl ⟨b,hb,sP h1,fun b' hb' hne=>RS fun v hv w hw e=> ?_⟩;have g1:=hin h2 v hv;have g2:=hi b' hb' w hw
  have e2:v.order.toNat=w.order.toNat:=Za
  rw [e2] at g1;exact hne ((f b' hb' w hw).1 g1.1)
 ·obtain ⟨m,h1,h2,rfl⟩:=Nj hc;refine .inr ⟨rfl,fun b' hb'=>RS fun v hv w hw e=> ?_⟩;have g1:=hin h2 v hv;have g2:=hi b' hb' w hw
  have e2:v.order.toNat=w.order.toNat:=Za
  rw [e2,f b' hb' w hw] at g1
  cases g1.1
theorem MW {x:Inst} {l:List Rte} {p:Pln} {now c:Int} (hx:InstOk x) (hn:x.orders.length<=4) (hd:Dis l) (hs: ∀c∈Er x l now,c.set<9223372036854775808)
  (hpen: ∀b∈l,∀v∈b.visits,0<=v.order/\v.order<x.orders.length/\(nth x.orders v.order.toNat).off=false/\(nth x.orders v.order.toNat).penalty= -1) (h:Oc x (Er x l now) p c 0) :
  Uh p.routes l=0/\p.routes.any (J3 l now)=false:=by
 obtain ⟨v1,_,v3⟩:=H7 hx hn hs (fun d hd2=>wN hd hd2) h;obtain ⟨_,k2,k3,k4,_⟩:=QL v1
 have org: ∀r∈p.routes,(∃b∈l,XR r b=true/\ ∀b'∈l,b'≠b->Wv r b'=false)\/(r.start=now/\ ∀b∈l,Wv r b=false):=fun r hr=>by
  obtain ⟨d,hdm,rfl⟩:=v3 r hr;exact T0 hx hd (fun b hb v hv=>(hpen b hb v hv).1) hdm
 constructor
 ·refine Fk fun j hj=> ?_;have hb:=Zo hj;generalize nth l j=b at hb;obtain ⟨v,hv⟩:=List.exists_mem_of_ne_nil _ (hd.ne b hb);obtain ⟨o1,o2,o3,o4⟩:=hpen b hb v hv
  have ei:((v.order.toNat:Nat):Int)=v.order:=Za
  have hbo: ∀r∈p.routes,XR r b=true->hasO r.visits ((v.order.toNat:Nat):Int)=true:=fun r _ hg=>by
   obtain ⟨_,⟨s,e⟩,_⟩:=Ix hg;exact Z6.2 ⟨v,by rw [e];exact Cd _ hv,ei.symm⟩
  have hob: ∀r∈p.routes,hasO r.visits ((v.order.toNat:Nat):Int)=true->XR r b=true:=fun r hr ho=>by
   obtain ⟨w,hw,e⟩:=Z6.1 ho;have hm:=M8 hw hv Za;rcases org r hr with ⟨b',hb',g1,g2⟩ | ⟨_,g2⟩
   ·by_cases e3:b=b'
    ·rw [e3];exact g1
    ·rw [g2 b hb e3] at hm;cases hm
   ·rw [g2 b hb] at hm;cases hm
  have hcnt:p.routes.countP (fun r=>XR r b)=p.routes.countP fun r=>hasO r.visits ((v.order.toNat:Nat):Int):=List.countP_congr fun r hr=>⟨fun h=>hbo r hr h,fun h=>hob r hr h⟩;have c1:=k2 v.order.toNat Za;have c2:=k4 v.order.toNat Za o3
  have c3:p.unserved.countP (fun u=>decide (u=((v.order.toNat:Nat):Int)))=0:=Ce.2 fun u hu e=>by
   simp only [Zp] at e;exact (k3 v.order.toNat Za (e ▸ hu)).2 o4
  rw [Ob,Zy,Zp,Zt];refine ⟨Za,fun r hr=> ?_⟩;rcases org r hr with ⟨b',hb',g1,g2⟩ | ⟨_,g2⟩
  ·by_cases e3:b=b'
   ·rw [e3,g1];rfl
   ·rw [g2 b hb e3];simp
  ·rw [g2 b hb];simp
 ·rw [XY];intro r hr;rcases org r hr with ⟨b',hb',g1,_⟩ | ⟨g1,_⟩
  ·have:Gy l r=true:=YR.2 ⟨b',hb',g1⟩;simp [J3,this]
  ·simp [J3,g1]
theorem Tx {x:Inst} {p q:Pln} {c e:Int} {L:List Col} (hx:InstOk x) (hn:x.orders.length<=4) (hs: ∀c∈L,c.set<9223372036854775808) (hl:L.length<=8192) (hr: ∀c∈L,rightB x c=true) (h:Oc x L q c e) (hk:chkP x p=0)
  (H: ∀r∈p.routes,∃j,j<L.length/\(nth L j).typ=r.typ/\(nth L j).set=((ordS r.visits:Nat):Int)/\(nth L j).price<=(prcF x r).1):e=0/\(Xn (Uy x p)).2=0/\c<=(Xn (Uy x p)).1:=by
 have hw:=(Ev hx hn hk).1;refine (Aq fun _=>and_iff_right hw).2 ?_;obtain ⟨hev,hun⟩:=VN hk;obtain ⟨k1,k2,k3,k4,k5⟩:=QL hk;obtain ⟨hpp,hps⟩:=Dn hx hn hk;have hty: ∀r∈p.routes,0<=r.typ/\r.typ<(x.types.length:Int):=fun r hr=>(X3 (X7 (hev r hr))).1
 obtain ⟨f,hf⟩: ∃f:Rte->Nat,∀r∈p.routes,f r<(L).length/\(nth (L) (f r)).typ=r.typ/\(nth (L) (f r)).set=((ordS r.visits:Nat):Int)/\(nth (L) (f r)).price<=(prcF x r).1:=by
  classical
  exact ⟨fun r=>if g:r∈p.routes then Classical.choose (H r g) else 0,fun r g=>by
   simp only [dif_pos g];exact Classical.choose_spec (H r g)⟩
 have hRV: ∀r∈p.routes,RightV x r.visits:=fun r hr=>YD (hev r hr)
 have hoff: ∀r∈p.routes,∀i:Nat,i<x.orders.length->hasO r.visits (i:Int)=true->(nth x.orders i).off=false:=fun r hr i hi ho=>by
  have ha:=(hRV r hr).alw (YO hx);have hb:(ordS r.visits).testBit i=true:=((hRV r hr).bit i).2 (Z6.1 ho);exact (ha.1 i hi hb)
 have hpen: ∀k:Nat,k<x.orders.length->(nth x.orders k).penalty≠ -1->0<=(nth x.orders k).penalty:=fun k hk' hne=>by
  have ha:=(hx.orders.2 k hk').arg;simp only [argOk,rng,Zy,Zp] at ha;omega
 obtain ⟨hP,hne,hb⟩:=kW (YO hx) (fun r hr=>⟨(hf r hr).1,(hf r hr).2.1,(hf r hr).2.2.1⟩) hRV (fun r hr=>(hty r hr).1) (fun i hi=>by have:=k2 i hi;omega) hoff
  (fun r hr=>by
   have h1:=k5 r.typ.toNat (by have:=hty r hr;omega)
   rwa [show ((r.typ.toNat:Nat):Int)=r.typ by have:=hty r hr;omega] at h1)
  (fun k hk' ho=>by
   rcases Nat.eq_zero_or_pos (p.routes.countP fun r=>hasO r.visits (k:Int)) with z | z
   ·have h1:=k4 k hk' ho;obtain ⟨u,h2,h3⟩:=Va.1 (show 0<p.unserved.countP (fun u=>decide (u=(k:Int))) by omega);rw [Zp] at h3;exact .inr (hpen k hk' (k3 k hk' (h3 ▸ h2)).2)
   ·obtain ⟨r,h2,h3⟩:=Va.1 z
    exact .inl ⟨r,h2,h3⟩)
 obtain ⟨e0,hle⟩:=sE hx hn hs h hl hr hP hne;refine ⟨e0,Av hle ?_⟩;rw [sD,qJ hb k1 k2 (fun i hi hu=>(k3 i hi hu).1) k4]
 have s1:((p.routes.map f).map fun j=>(nth (L) j).price).sum<=(p.routes.map fun r=>(prcF x r).1).sum:=by
  rw [JE];exact mF fun r hr=>(hf r hr).2.2.2
 rw [hps];omega
theorem aH {x:Inst} (hx:InstOk x) (hn:x.orders.length<=4) {c:Col} (h:ColG x c):rightB x c=true:=by
 obtain ⟨h1,h2,h3,h4⟩:=h;have hf:=YO hx;have hR:RightV x c.route.visits:=YD h1;have ha:=hR.alw hf;obtain ⟨hty,_,_⟩:=X3 (X7 h1)
 have hS:ordS c.route.visits<2^x.orders.length:=by
  rcases Nat.div_eq_zero_iff.1 (hR.lt hf).2 with h | h
  ·have:0<pw x.orders.length:=Nat.two_pow_pos _;omega
  ·exact h
 have hp4:2^x.orders.length<=2^4:=Y1 Za hn
 have hw:bI (ordS c.route.visits) (Yw x x.orders.length)=true:=by
  rw [mU hn Za,Zy,Zp,Zt];refine ⟨hS,fun i hi=> ?_⟩
  cases hb:(ordS c.route.visits).testBit i with
  | false=>rfl
  | true=>rw [ha.off i (ZP.1 hi) hb];rfl
 have hfn:=Jn hx h1
 have hcn:U6 c.route.visits x.orders.length<=x.orders.length:=by
  have:=List.countP_le_length (p:=fun i:Nat=>hasO c.route.visits (i:Int)) (l:=List.range x.orders.length);rw [List.length_range] at this;exact this
 have hpr:(prcF x c.route).1=(((XG x c.route).cost*16+(XG x c.route).moved)*16+(XG x c.route).other)*65536+(XG x c.route).work:=by
  rw [prcF,if_pos h1];exact N3 hfn.1 ((Q9 hfn.1).2 Za)
 have hp:=Ns x c.route;have hpos:=Nat.pos_of_ne_zero (Nn hR);simp only [rightB,Zy,Zp];rw [<- h2,h4,XO,<- h3];exact ⟨hty.1,hty.2,Za,hw,hp.1,by rw [hpr];omega⟩
theorem Ri {x:Inst} (hx:InstOk x) {r b:Rte} (ht:r.typ=b.typ) (hs:r.start=b.start) (hv: ∃s,r.visits=b.visits++s) (hrs: ∃s,r.rests=b.rests++s) (hfin:E4 b=true->r.visits=b.visits) (he:(prcF x r).2=0) :
  ∃c∈JQ x b (ordS r.visits),c.typ=r.typ/\c.set=((ordS r.visits:Nat):Int)/\c.price<=(prcF x r).1:=by
 have hf:=YO hx;have hR:RightV x r.visits:=YD (QZ he);obtain ⟨s,hs2⟩:=hrs;obtain ⟨p1,p2⟩:=ME (q:=aO b r.visits) hx ht.symm hs.symm rfl hs2 he
 have hok:Bj x b (ordS r.visits) r.visits=true:=by
  unfold Bj;rw [hR.ord hf,p1];simp
 have hin:r.visits∈(if E4 b=true then [b.visits] else Co (CW x (ordS r.visits)) (KX x (ordS r.visits)) b.visits):=by
  split
  ·rename_i h;rw [hfin h];simp
  ·obtain ⟨q1,q2⟩:=lL hf hR;obtain ⟨s,hs3⟩:=hv;have hl:=hR.len hf
   have hbl:b.visits.length<=r.visits.length:=by rw [hs3,ZG];omega
   have:=iS q1 (k0:=b.visits.length) (fun j _ hj=>q2 j hj) (KX x (ordS r.visits)) b.visits.length (Zv _) hbl (by unfold KX;omega);rwa [show r.visits.take b.visits.length=b.visits by rw [hs3];simp] at this
 obtain ⟨g1,g2⟩:=(Gh (ok:=Bj x b (ordS r.visits)) (col:=V4 x b (ordS r.visits)) oX _ (QH,false)).2 _ hin hok;have hz:(JZ x b (ordS r.visits)).2=true:=g1
 have hmem:(JZ x b (ordS r.visits)).1∈JQ x b (ordS r.visits):=by rw [JQ,if_pos hz];simp
 obtain ⟨a1,a2,_,_⟩:=Ni hmem;exact ⟨_,hmem,by rw [a1,ht],a2,Av g2 p2⟩
theorem eX {x:Inst} {l:List Rte} {now:Int} (hx:InstOk x) (hd:Dis l) (hi: ∀b∈l,∀v∈b.visits,0<=v.order) {r:Rte} (he:(prcF x r).2=0) (hk: ∀b∈l,XR r b=true\/Wv r b=false) (hn:(∃b∈l,XR r b=true)\/(r.start=now/\r.rests= [])) :
  ∃j,j<(Er x l now).length/\(nth (Er x l now) j).typ=r.typ/\(nth (Er x l now) j).set=((ordS r.visits:Nat):Int)/\(nth (Er x l now) j).price<=(prcF x r).1:=by
 have hf:=YO hx;have hev:=QZ he;have hR:RightV x r.visits:=YD hev;obtain ⟨hty,_,_⟩:=X3 (X7 hev);have hpos:=Nat.pos_of_ne_zero (Nn hR)
 have hS:ordS r.visits<2^x.orders.length:=by
  rcases Nat.div_eq_zero_iff.1 (hR.lt hf).2 with h | h
  ·have:0<pw x.orders.length:=Nat.two_pow_pos _;omega
  ·exact h
 have hbit: ∀b∈l,∀v∈b.visits,(ordS r.visits).testBit v.order.toNat=true->Wv r b=true:=fun b hb v hv h=>by
  obtain ⟨w,hw,e⟩:=(hR.bit _).1 h;have:=hi b hb v hv;exact M8 hw hv Za
 suffices hc: ∃c∈Er x l now,c.typ=r.typ/\c.set=((ordS r.visits:Nat):Int)/\c.price<=(prcF x r).1 by
  obtain ⟨c,hc,h1,h2,h3⟩:=hc;obtain ⟨j,hj,rfl⟩:=List.getElem_of_mem hc;rw [<- Zi hj] at h1 h2 h3;exact ⟨j,hj,h1,h2,h3⟩
 by_cases hb: ∃b∈l,XR r b=true
 ·obtain ⟨b,hb,hg⟩:=hb;obtain ⟨⟨t1,t2⟩,hv,hrs,hfn⟩:=Ix hg
  obtain ⟨c,c1,c2⟩:=Ri hx t1 t2 hv hrs (fun hfin=>by
   obtain ⟨s,e⟩:=hv;simp only [E4,Zp] at hfin
   have hs:s= []:=by
    have:=Z5 List.length e;rw [ZG] at this;exact Cb.1 Za
   rw [e,hs,Vw]) he
  refine ⟨c,(Es hd).2 (.inl ⟨b,hb,_,hpos,hS,fun b' hb' v hv'=>⟨fun h=> ?_,?_⟩,c1⟩),c2⟩
  ·have hm:=hbit b' hb' v hv' h;rcases hk b' hb' with g | g
   ·obtain ⟨_,⟨s',e'⟩,_,_⟩:=Ix g;obtain ⟨s,e⟩:=hv;obtain ⟨a,ha⟩:=List.exists_cons_of_ne_nil (hd.ne b hb);obtain ⟨a',ha'⟩:=List.exists_cons_of_ne_nil (hd.ne b' hb');obtain ⟨L1,h1⟩:=ha;obtain ⟨L2,h2⟩:=ha';rw [h1] at e;rw [h2] at e'
    have e3:a=a':=by
     rw [e] at e';simp only [ZW,Ci] at e';exact e'.1
    exact hd.same hb' hb (v:=a') (w:=a) (by rw [h2];simp) (by rw [h1];simp) (by rw [e3])
   ·rw [g] at hm;cases hm
  ·rintro rfl;obtain ⟨s,e⟩:=hv;have:=hi b' hb' v hv';exact (hR.bit _).2 ⟨v,by rw [e];exact Cd _ hv',Za⟩
 ·rcases hn with hn | ⟨n1,n2⟩
  ·exact absurd hn hb
  ·obtain ⟨t,ht⟩: ∃t:Nat,r.typ=(t:Int):=⟨r.typ.toNat,Za⟩;obtain ⟨c,c1,c2⟩:=Ri (b:=Bh (t:Int) now) hx ht n1 ⟨r.visits,rfl⟩ ⟨[],by rw [n2];rfl⟩ (fun hfin=>by simp [E4,Bh] at hfin) he;refine ⟨c,(Es hd).2 (.inr ⟨t,Za,_,hpos,hS,fun b' hb' v hv'=> ?_,c1⟩),c2⟩
   cases hbt:(ordS r.visits).testBit v.order.toNat with
   | false=>rfl
   | true =>
    have hm:=hbit b' hb' v hv' hbt;rcases hk b' hb' with g | g
    ·exact absurd ⟨b',hb',g⟩ hb
    ·rw [g] at hm;cases hm
set_option maxRecDepth 60000
theorem PG {x:Inst} {p:Pln} {l:List Rte} {now:Int} (h:Un x p l now=0):chkP x p=0/\ ∀b∈l,Ob p.routes b=true:=by
 unfold Un at h
 split at h
 ·cases h
 ·split at h
  ·rename_i c;exact absurd h c
  ·rename_i c1
   split at h
   ·rename_i c;exact absurd h c
   ·rename_i c2;refine ⟨Xs.1 c1,fun b hb=> ?_⟩;have c2:=Xs.1 c2;unfold Uh at c2
    split at c2
    ·rename_i c3;exact Zt.1 c3 b hb
    ·cases c2
theorem I3 (c:Cas) (nx:Pln) (hw:c.wf 1048576) (hnx:nx.wf 1048576) :
  PC 7 [.p (pT c),.p (Wh nx)] (.bool true):=by
 have haw:=SN;have hnb:=sA hnx;have hnr:=hnx.1;have hnu:=hnx.2.2.1;refine By [] Tryz.func7 rfl ZnR ?_;simp (disch:=omega) only [Tryz.f7,go_sem,seval];refine ZdM (pP c hw) fun b fl l hl hd=> ?_;simp (disch:=omega) only [go_sem,seval]
 cases b with
 | false =>
  simp (disch:=omega) only [VV,go_sem,seval];refine (haw).use ?_;simp (disch:=omega) only [go_sem,seval]
 | true =>
  simp (disch:=omega) only [VX,go_sem,seval];refine (HJ nx hnx).use ?_;simp (disch:=omega) only [go_sem,seval]
  cases hpl:smB nx with
  | false =>
   simp (disch:=omega) only [VV,go_sem,seval];refine (haw).use ?_;simp (disch:=omega) only [go_sem,seval]
  | true =>
   simp (disch:=omega) only [VX,go_sem,seval];have hD:=hd rfl;have hy:=hD.y.2.2.2.2.2.2
   have hy1:c.y.orders.length<=3:=by have:=hD.y.1;omega
   have hnow:=hD.now;obtain ⟨p1,p2,p3⟩:=Lu hD.sm;obtain ⟨bs,hor,hln⟩:=zN hD hl.2
   have hdis:Dis l:=by rw [hD.eq];exact rY hD.chk
   have h6:=N0 hy;have hbl:c.y.before.length<=1048576:=hw.2.2.2.2.2.2.2.2.2.2.1
   have hvs: ∀r∈c.p.routes,r.visits.length<=1048576:=fun r h=>by have:=p3 r h;omega
   have hbb: ∀r∈l,r.visits.length<=1048576/\ordR r.visits=(((ordS r.visits:Nat):Int),0)/\ ∀v∈r.visits,0<=v.order/\v.order<62:=fun r h=>⟨by have:=hln r h;omega,hor r h,bs.ord r h⟩;have cr:=SR c.y c.p l fl Za Za Za hvs Za hbb;have cs:=aC c.y c.p l fl c.now hy Za hbl Za hvs hor bs hnow;unfold vO at cr
   by_cases h0:Wq c.y c.p=0
   ·have hYo:(D2 c.y c.p (Xf l)).orders.length=c.y.orders.length:=VC;have hYt:(D2 c.y c.p (Xf l)).types=c.y.types:=rfl;have hY:=dK (S:=Xf l) hy h0
    have hpen: ∀b∈l,∀v∈b.visits,0<=v.order/\v.order<(D2 c.y c.p (Xf l)).orders.length/\(nth (D2 c.y c.p (Xf l)).orders v.order.toNat).off=false/\(nth (D2 c.y c.p (Xf l)).orders v.order.toNat).penalty= -1:=fun b hb v hv=>by
     have o1:=bs.ord b hb v hv;obtain ⟨s1,s2⟩:=(hD.beg b hb).sub v.order.toNat ((YS _ _).2 ⟨v,hv,rfl⟩);have e:nth (D2 c.y c.p (Xf l)).orders v.order.toNat=vN c.y c.p (Xf l) v.order.toNat:=KP s1;have ht:(Xf l).testBit v.order.toNat=true:=UI.2 ⟨b,hb,v,hv,rfl⟩;rw [e,vN,if_pos ht,hYo];exact ⟨o1.1,Za,s2,rfl⟩
    simp only [if_pos h0,h0] at cr;have hP':=fun p n e (h:Zg3 (Oc (D2 c.y c.p (Xf l)) (Er (D2 c.y c.p (Xf l)) l c.now)) (Wq c.y c.p) p n e)=>h.1 h0;generalize D2 c.y c.p (Xf l)=Y at cs cr hY hYo hYt hpen hP';obtain ⟨hl8,hset⟩:=kV (x:=Y) (bs:=l) (now:=c.now) Za (by rw [hYt];exact h6) bs.len;have hgd:=fun d (hd2:d∈Er Y l c.now)=>wN hdis hd2;have hri: ∀d∈Er Y l c.now,rightB Y d=true:=fun d hd2=>aH hY Za (hgd d hd2);refine W1 cr ?_;simp (disch:=omega) only [go_sem,seval];refine mN cs fun p n e hP=> ?_;have hP:=hP' p n e hP
    simp (disch:=omega) only [go_sem,seval]
    have hval:e=0->Un Y p l c.now=0/\p.routes.length<=4/\p.unserved.length<=4/\ ∀r∈p.routes,WH r:=fun he=>by
     subst he;obtain ⟨v1,_,v3⟩:=H7 hY Za hset hgd hP;obtain ⟨k1,k2⟩:=MW hY Za hdis hset hpen hP;have hfit:=(Ev hY Za v1).2;refine ⟨?_,Za,Za,fun r hr=> ?_⟩
     ·rw [Un,if_neg Za,if_neg Za,if_neg Za,k2,if_neg Zb]
     ·obtain ⟨d,hdm,rfl⟩:=v3 r hr;exact rW (x:=Y) Za hln hdm
    have hlst:Un Y nx l c.now=0->(∀r∈nx.routes,(∃b∈l,XR r b=true)\/(r.start=c.now/\r.rests= []))->e=0/\(Xn (Uy Y nx)).2=0/\n<=(Xn (Uy Y nx)).1/\Nt Y nx=Xn (Uy Y nx):=fun hv hq=>by
     obtain ⟨v1,v2⟩:=PG hv;obtain ⟨hpp,_⟩:=Dn hY Za v1
     have g:=Tx hY Za hset Za hri hP v1 fun r hr=>eX hY hdis (fun b hb v hv=>(hpen b hb v hv).1) (hpp r hr).2 (fun b hb=>by
      have:=v2 b hb;rw [Ob,Zy,Zt] at this;have:=this.2 r hr
      simpa using this) (hq r hr)
     exact ⟨g.1,g.2.1,g.2.2,by rw [Nt,if_pos v1]⟩
    have cv:=bH Y nx l fl c.now hY hnr hnu Za hnb hl.2;have cp:=T1 Y nx hY hnr hnu hnb;generalize Un Y nx l c.now=E at cv hlst
    by_cases he:e=0
    rotate_left
    simp (disch:=omega) only [he,JG,go_sem,seval];refine (cv).use ?_;simp (disch:=omega) only [go_sem,seval]
    rotate_left
    obtain ⟨w1,w2,w3,w4⟩:=hval he;have cw:=tM Y p l fl c.now hY Za Za Za w4 hl.2;rw [w1] at cw;simp (disch:=omega) only [he,eq_self,Vd,go_sem,seval];refine (cw).use ?_;simp (disch:=omega) only [go_sem,seval];refine (cv).use ?_;simp (disch:=omega) only [go_sem,seval]
    all_goals
     refine cD ?_ ?_<;>intro h9<;>simp (disch:=omega) only [Sh.out h9,go_sem,seval]
     ·refine (haw).use ?_;simp (disch:=omega) only [go_sem,seval]
     ·have hE:E=0:=Za
      refine Zk [2,3,5,7,10,11] (fun i:Nat=> [(12,.p (.int .i64 i))]) (fun _=> [C1 c,Zu nx,Zh Y,Zu p]) (fun i=>i<=nx.routes.length/\ ∀j,j<i->(∃b∈l,XR (nth nx.routes j) b=true)\/((nth nx.routes j).start=c.now/\(nth nx.routes j).rests= [])) (fun i=>nx.routes.length-i) 0 ⟨Za,fun j hj=>Za⟩ (Weak.mk ?_) ?_
      ·simp (disch:=omega) only [C1,DR,Zu,Zh,Zs,Zn,go_sem,seval]
      ·rintro i ⟨hi,hq⟩;simp (disch:=omega) only [C1,DR,Zu,Zh,Zs,Zn,go_sem,seval];refine cD ?_ ?_<;>intro h10<;>simp (disch:=omega) only [Sh.out h10,go_sem,seval]
       ·have hi2:i<nx.routes.length:=Za
        have ri:=hnb _ (ZF hi2);refine Zk [2,3,5,7,10,11,12] (fun k:Nat=> [(13,.p (.bool ((l.take k).any (XR (nth nx.routes i))))),(14,.p (.int .i64 k))]) (fun _=> [C1 c,Zu nx,Zh Y,Zu p]) (fun k=>k<=l.length) (fun k=>l.length-k) 0 Zb (Weak.mk ?_) ?_
        ·simp (disch:=omega) only [C1,DR,Zu,Zh,Zs,Zn,Ya,List.any_nil,go_sem,seval]
        ·intro k hk;simp (disch:=omega) only [C1,DR,Zu,Zh,Zs,Zn,go_sem,seval];refine cD ?_ ?_<;>intro h11<;>simp (disch:=omega) only [Sh.out h11,go_sem,seval]
         ·have hk2:k<l.length:=Za
          have ht:(l.take (k+1)).any (XR (nth nx.routes i))=((l.take k).any (XR (nth nx.routes i))||XR (nth nx.routes i) (nth l k)):=by
           rw [Xl hk2,List.any_append,Zi hk2];simp
          cases hz:(l.take k).any (XR (nth nx.routes i)) with
          | true =>
           rw [hz,Bool.true_or] at ht;refine ZV 13 mixed Ze Ze ?_;simp (disch:=omega) only [go_sem,seval];exact ⟨k+1,Za,Za,Weak.mk (by simp (disch:=omega) only [ht,C1,DR,Zu,Zh,Zs,Zn,go_sem,seval])⟩
          | false =>
           rw [hz,JC] at ht;refine ZV 13 mixed Ze Ze ?_;simp (disch:=omega) only [go_sem,seval];refine Zr (ET (nth nx.routes i) (nth l k) ri (hl.2 _ (Zo hk2))) ?_;simp (disch:=omega) only [go_sem,seval];exact ⟨k+1,Za,Za,Weak.mk (by simp (disch:=omega) only [ht,C1,DR,Zu,Zh,Zs,Zn,go_sem,seval])⟩
         ·have hkl:k=l.length:=Za
          subst hkl;rw [Xi]
          cases hz:l.any (XR (nth nx.routes i)) with
          | true =>
           refine Xr ?_;simp (disch:=omega) only [VX,go_sem,seval];exact ⟨i+1,⟨Za,Zm.2 ⟨hq,.inl (YR.1 hz)⟩⟩,Za,Weak.mk (by simp (disch:=omega) only [C1,DR,Zu,Zh,Zs,Zn,go_sem,seval])⟩
          | false =>
           refine Xr ?_;simp (disch:=omega) only [VV,go_sem,seval];refine gF ?_ ?_<;>intro h12<;>simp (disch:=omega) only [Sh.out h12,go_sem,seval]
           ·refine (haw).use ?_;simp (disch:=omega) only [go_sem,seval]
           ·refine cD ?_ ?_<;>intro h13<;>simp (disch:=omega) only [Sh.out h13,go_sem,seval]
            ·refine (haw).use ?_;simp (disch:=omega) only [go_sem,seval]
            ·exact ⟨i+1,⟨Za,Zm.2 ⟨hq,.inr ⟨Za,Cb.1 Za⟩⟩⟩,Za,Weak.mk (by simp (disch:=omega) only [C1,DR,Zu,Zh,Zs,Zn,go_sem,seval])⟩
       ·have hil:i=nx.routes.length:=Za
        subst hil
        obtain ⟨g1,g2,g3,g4⟩:=hlst hE fun r hr=>by
         obtain ⟨j,hj,rfl⟩:=ZU.1 hr;rw [<- Zi hj];exact hq j hj
        rw [g4,g2] at cp;generalize (Xn (Uy Y nx)).1=A at cp g3;refine W1 cp ?_;simp (disch:=omega) only [eq_self,Vd,Yk g3,Yk g1,go_sem,seval];refine (haw).use ?_;simp (disch:=omega) only [go_sem,seval]
        try simp [g1,g3]
   ·refine W1 cr ?_;simp (disch:=omega) only [go_sem,seval];refine cD ?_ ?_<;>intro h4<;>simp (disch:=omega) only [Sh.out h4,go_sem,seval]
    ·refine (haw).use ?_;simp (disch:=omega) only [go_sem,seval]
    ·omega
end Go.Proofs.YtiigdaohjanidaaGreatDoor.K
