/- Declarations that the closing texts need, part 24: joined by tools/slim.py. -/
import Derived.Test.YtiigdaohjanidaaGreatDoorI23
import Derived.Shelf.Slices.In.SortNone
import Derived.Shelf.Sort.Plain
set_option linter.unusedVariables false
set_option linter.unusedSimpArgs false
namespace Go.Proofs.YtiigdaohjanidaaGreatDoor.K
open Go Go.AM Go.Proofs
set_option maxRecDepth 8000
set_option maxHeartbeats 8000000
def ZmJ (l:List Int):List Int:=l.mergeSort fun x y=>decide (x<=y)
def HH (x:Inst) (l:List Col) (g:List Int) (k:Nat):Int:=if (nth x.orders k).off=true then 0 else if 0<=nth g k then (if QD (nth l (nth g k).toNat).set.toNat=(k:Int) then (nth l (nth g k).toNat).price else 0) else skR x k
def R2 (x:Inst) (l:List Col) (g:List Int):Nat->Int
 | 0=>0
 | d+1=>HH x l g (x.orders.length-(d+1))+R2 x l g d
theorem DJ {x:Inst} {l ys:List Col} (hc:Ctx x l ys): ∀(d:Nat) (a:List Int) (s:St) (p:Int),d<=x.orders.length->Nd x l a s (x.orders.length-d)->(∀T:Nat,T<x.types.length->(usdI l a T x.orders.length:Int)<=(nth x.types T).count)-> ∀q∈Db x l d a p,
  (∀T:Nat,T<x.types.length->(usdI l q.1 T x.orders.length:Int)<=(nth x.types T).count)/\(∀t,x.orders.length-d<=t->t<x.orders.length->(nth x.orders t).off=true\/0<=nth q.1 t\/0<=(nth x.orders t).penalty)/\q.2=p+R2 x l q.1 d
 | 0,a,s,p,_,h,hu,q,hq=>by
  simp only [Db,Xs,Ui,or_false] at hq
  grind [R2]
 | d+1,a,s,p,hd,h,hu,q,hq=>by
  obtain ⟨k,hk⟩: ∃k,k=x.orders.length-(d+1):=⟨_,rfl⟩
  have hkn:k<x.orders.length:=Za
  have hk1:x.orders.length-d=k+1:=Za
  rw [<- hk] at h ⊢;rw [Db,<- hk] at hq;rw [R2,<- hk];have old:=fun (a:List Int) (p:Int) (hl:a.length=x.orders.length) (hq:q∈Db x l d a p)=>(Ab d a p Za hl q hq).2 k hkn (.inl Za)
  split at hq
  ·rename_i ho;obtain ⟨i1,i2,i3⟩:=DJ hc d a (DS s) p Za (by rw [hk1];exact h.skip' hkn) hu q hq;have e:=old a p h.len hq;refine ⟨i1,fun t h1 h2=> ?_,?_⟩
   ·grind
   ·have z:HH x l q.1 k=0:=by
     unfold HH;rcases ho with ho | ho
     ·grind
     ·split
      ·rfl
      ·rw [e,if_pos ho,if_neg fun htz=> ?_];obtain ⟨t,t1,t2⟩:=h.old k hkn (Xf _) ho;have hr:=h.rng k hkn;obtain ⟨_,s0,s1,_⟩:=hc.set (ZD (l:=l) (i:=(nth a k).toNat) Za);have:=((CZ s0 s1 hc.n4 hkn).1 htz).2 t Za t2;omega
    omega
  ·rename_i ho;have hoff: ¬(nth x.orders k).off=true:=fun e=>ho (.inl e);have hak:nth a k<0:=Jw.1 fun g=>ho (.inr g);rw [XI,YN] at hq;rcases hq with ⟨j,hj,hq⟩ | hq
   ·have hj:=ZQ.1 hj
    split at hq
    ·rename_i hcan;obtain ⟨hy,htz⟩:=(HA hc h hkn hj).1 hcan;have hch:=h.child hc hkn hj hcan;obtain ⟨c1,c2⟩:=KP h.len hcan;have hcan':=hcan;simp only [Ei,ZO,Zl,BR,h.len] at hcan';obtain ⟨hb,hcnt,hneg⟩:=hcan'
     have hfr: ∀i,i<x.orders.length->(nth l j).set.toNat.testBit i=false->nth a i≠(j:Int):=fun i hi _ e=>by
      have:=h.grp i hi Za k hkn (by simp_all);omega
     obtain ⟨i1,i2,i3⟩:=DJ hc d _ _ _ Za (by rw [hk1];exact hch) (fun T hT=>by
      rw [Ao h.len hkn hb hneg hfr T _ (Xf _)];have h0:=hu T hT
      by_cases e:(nth l j).typ=(T:Int)
      ·rw [if_pos ⟨hkn,e⟩]
       grind [X6]
      grind) q hq
     have e:=old _ _ (by rw [QY];exact h.len) hq;rw [Xt (by rw [h.len];exact hkn),if_pos c1] at e;refine ⟨i1,fun t h1 h2=> ?_,?_⟩
     ·grind
     ·have z:HH x l q.1 k=(nth l j).price:=by
       unfold HH;rw [if_neg hoff,e,if_pos Za,X6,if_pos htz]
      omega
    ·simp at hq
   ·split at hq
    ·rename_i hpen;obtain ⟨i1,i2,i3⟩:=DJ hc d a (DS s) _ Za (by rw [hk1];exact h.skip' hkn) hu q hq;have e:=old a _ h.len hq;refine ⟨i1,fun t h1 h2=> ?_,?_⟩
     ·grind
     ·have z:HH x l q.1 k=skR x k:=by
       simp_all [HH,if_neg]
      omega
    ·simp at hq
theorem wR {x:Inst} {l ys:List Col} (hc:Ctx x l ys) {g:List Int} {s:St} (hg:Nd x l g s x.orders.length) {k:Nat} (hk:k<x.orders.length) (h0:0<=nth g k):NH g k=true↔QD (nth l (nth g k).toNat).set.toNat=(k:Int):=by
 have hr:=hg.rng k hk;obtain ⟨_,s0,s1,_⟩:=hc.set (ZD (l:=l) (i:=(nth g k).toNat) Za);rw [Bv,CZ s0 s1 hc.n4 hk]
 constructor
 ·intro h;refine ⟨hg.own k hk h0,fun i hi hb=>Nat.le_of_not_lt fun hlt=>h i hlt (hg.grp k hk h0 i hi hb)⟩
 ·rintro ⟨_,h⟩ t ht e;have h2:=hg.own t Za Za
  grind
theorem TL {x:Inst} {l ys:List Col} (hc:Ctx x l ys) {g:List Int} {s:St} (hg:Nd x l g s x.orders.length) (T:Int): ∀d k,k+d=x.orders.length->(RA l g d k).countP (fun c=>decide (c.typ=T))+usdI l g T k=usdI l g T (k+d)
 | 0,k,_=>by simp [RA]
 | d+1,k,h=>by
  have ih:=TL hc hg T d (k+1) Za
  have hk:k<x.orders.length:=Za
  rw [RA,List.countP_append,show k+(d+1)=k+1+d by omega,<- ih,usdI,Dw]
  by_cases h0:0<=nth g k
  ·have hf:=wR hc hg hk h0
   by_cases ht:QD (nth l (nth g k).toNat).set.toNat=(k:Int)
   ·rw [if_pos ⟨h0,ht⟩,hf.2 ht,Yq h0]
    by_cases hT:(nth l (nth g k).toNat).typ=T
    ·simp [hT];omega
    ·simp [hT]
   ·rw [if_neg fun e=>ht e.2,show NH g k=false from by
     cases e:NH g k with
     | false=>rfl
     | true=>exact absurd (hf.1 e) ht]
    simp
  ·rw [if_neg fun e=>h0 e.1,WU h0];simp
theorem AR {α:Type} {p:α->Bool} : ∀ {l:List α},(l.Pairwise fun a b=> ¬(p a=true/\p b=true))->l.countP p<=1
 | [],_=>Zb
 | a::l,h=>by
  rw [List.pairwise_cons] at h;have ih:=AR h.2;rw [List.countP_cons]
  split
  ·rename_i ha;have:l.countP p=0:=List.countP_eq_zero.2 fun b hb hpb=>h.1 b hb ⟨ha,hpb⟩;omega
  ·omega
theorem Zjm : ∀S:Fin 16,0<S.val-> ∃k:Fin 4,QD S.val=(k.val:Int)/\S.val.testBit k.val=true:=by decide+kernel
theorem tV {x:Inst} {l ys:List Col} (hc:Ctx x l ys) {g:List Int} {s:St} (hg:Nd x l g s x.orders.length) {i:Nat} (hi:i<x.orders.length):(RA l g x.orders.length 0).countP (fun c=>c.set.toNat.testBit i)=if 0<=nth g i then 1 else 0:=by
 have hin: ∀t,t<x.orders.length->0<=nth g t->nth l (nth g t).toNat∈l:=fun t ht h0=>ZD (by have:=hg.rng t ht;omega)
 split
 ·rename_i h0;refine Nat.le_antisymm (AR ?_) (VZ.2 ?_)
  ·refine (M6 x.orders.length 0).imp_of_mem fun {a b} ha hb h hh=> ?_;obtain ⟨t,_,t1,t2,t3,rfl⟩:=(Q7 _ _).1 ha;obtain ⟨u,_,u1,u2,u3,rfl⟩:=(Q7 _ _).1 hb;have e1:=hg.grp t Za t2 i hi hh.1;have e2:=hg.grp u Za u2 i hi hh.2
   grind
  ·have hm:=hin i hi h0;obtain ⟨_,s0,s1,s2⟩:=hc.set hm;have h16:(nth l (nth g i).toNat).set.toNat<16:=UJ s1 (Yw (n:=2) Za hc.n4);obtain ⟨k,k1,k2⟩:=Zjm ⟨_,h16⟩ s0;simp only at k1 k2;have hk:=(s2 _ k2).1;have e:=hg.grp i hi h0 k.val hk k2;refine ⟨nth l (nth g i).toNat,(Q7 _ _).2 ⟨k.val,Za,Za,Za,by grind,by rw [e]⟩,hg.own i hi h0⟩
 ·rename_i h0;refine List.countP_eq_zero.2 fun c hcm hb=>h0 ?_;obtain ⟨t,_,t1,t2,t3,rfl⟩:=(Q7 _ _).1 hcm;rw [hg.grp t Za t2 i hi hb];exact t2
theorem DZ {x:Inst} {g:List Int} {u:Int} : ∀d k,u∈UA x g d k↔ ∃i,k<=i/\i<k+d/\nth g i<0/\(nth x.orders i).off=false/\u=(i:Int)
 | 0,k=>by simp [UA];omega
 | d+1,k=>by
  rw [UA,XI,DZ d (k+1)]
  grind
theorem M7 {x:Inst} {g:List Int} : ∀d k,(UA x g d k).Pairwise fun a b=>a<b
 | 0,k=> .nil
 | d+1,k=>by
  rw [UA,BE];refine ⟨?_,M7 d (k+1),fun a ha b hb=> ?_⟩
  ·split<;>simp
  ·split at ha
   ·obtain ⟨i,h1,h2,h3,h4,rfl⟩:=(DZ _ _).1 hb
    grind
   ·simp at ha
theorem tW {x:Inst} {g:List Int} {i:Nat} (hi:i<x.orders.length):(UA x g x.orders.length 0).countP (fun u=>decide (u=(i:Int)))=if nth g i<0/\(nth x.orders i).off=false then 1 else 0:=by
 split
 ·rename_i h;refine Nat.le_antisymm (AR ((M7 _ _).imp fun {a b} h hh=> ?_)) (VZ.2 ⟨(i:Int),(DZ _ _).2 ⟨i,Za,Za,h.1,h.2,rfl⟩,Zb⟩)
  grind
 ·rename_i h;refine List.countP_eq_zero.2 fun u hu e=>h ?_;obtain ⟨j,_,j1,j2,j3,rfl⟩:=(DZ _ _).1 hu
  grind
theorem TM {x:Inst} {l ys:List Col} (hc:Ctx x l ys) {g:List Int} {s:St} (hg:Nd x l g s x.orders.length): ∀d k,k+d=x.orders.length->((RA l g d k).map (·.price)).sum+((UA x g d k).map fun u=>skR x u.toNat).sum=R2 x l g d
 | 0,k,_=>by rfl
 | d+1,k,h=>by
  have ih:=TM hc hg d (k+1) Za
  have hk:k<x.orders.length:=Za
  rw [RA,UA,R2,<- ih,X0,X0,BI,BI,show x.orders.length-(d+1)=k by omega]
  have key:((if 0<=nth g k/\QD (nth l (nth g k).toNat).set.toNat=(k:Int) then [nth l (nth g k).toNat] else []).map (·.price)).sum+((if nth g k<0/\(nth x.orders k).off=false then [(k:Int)] else []).map fun u=>skR x u.toNat).sum=HH x l g k:=by
   unfold HH
   by_cases h0:0<=nth g k
   ·have hr:=hg.rng k hk;have ho:(nth x.orders k).off=false:=((hc.set (ZD (l:=l) (i:=(nth g k).toNat) Za)).2.2.2 k (hg.own k hk h0)).2
    have e0: ¬(nth g k<0/\(nth x.orders k).off=false):=fun e=>Za
    have e1: ¬(nth x.orders k).off=true:=by rw [ho];simp
    rw [if_neg e0,if_neg e1,if_pos h0]
    by_cases ht:QD (nth l (nth g k).toNat).set.toNat=(k:Int)
    ·rw [if_pos ⟨h0,ht⟩,if_pos ht];simp
    ·rw [if_neg fun e=>ht e.2,if_neg ht];simp
   ·rw [if_neg fun e=>h0 e.1]
    cases ho:(nth x.orders k).off with
    | true=>simp
    | false=>rw [if_pos ⟨Za,rfl⟩,if_neg Zb,if_neg h0];simp
  omega
theorem T5 {x:Inst} (hx:InstOk x) {c:Col} (h:c∈allL x): ∃(k:Nat) (m:List Vis),k<x.types.length/\Fz x k m=true/\c=Uc x k (Z8 m) m:=by
 obtain ⟨k,S,h1,h2,h3,h4,rfl⟩:=Bb.1 h;have hf:=XY hx
 have hopn:0<=(nth x.types ((k:Nat):Int).toNat).opn:=by
  simp_all [Vl]
 unfold QJ at h4 ⊢
 split at h4
 ·rename_i hc;rw [if_pos hc];have hS:S / pw x.orders.length=0:=KZ h3;have ha:Alw x S:=(J3 (by have:=hf.len;omega) hS hf.val).1 hc.1;rw [aN hx Za hS ha hopn] at hc ⊢;rcases C1 _ _ hc.2 with ⟨e,_⟩ | ⟨m,m1,m2,m3⟩
  ·cases e
  ·have m3:(lQ x (k:Int) S (V4,false)).1=_:=m3;simp only [okR,ZO,Zl] at m2;have hr:RightV x m:=Wd (r:=Di (k:Int) m) (VO m2.2.2);have e:=m2.1;rw [hr.ord hf] at e
   grind
 ·simp at h4
theorem nO : ∀ {l:List Vis},l≠ []->(∃v∈l,v.order=HY l)/\ ∀v∈l,HY l<=v.order:=by
 intro l h
 cases l with
 | nil=>grind
 | cons v m =>
  have key: ∀(m:List Vis) (n:Int),(m.foldl (fun n w=>if w.order<n then w.order else n) n=n\/ ∃w∈m,w.order=m.foldl (fun n w=>if w.order<n then w.order else n) n)/\m.foldl (fun n w=>if w.order<n then w.order else n) n<=n/\ ∀w∈m,m.foldl (fun n w=>if w.order<n then w.order else n) n<=w.order:=fun m=>by
   induction m with
   | nil=>simp
   | cons w m ih =>
    grind
  obtain ⟨k1,k2,k3⟩:=key m v.order;rw [HY]
  grind
theorem Zbw {x:Inst} (hx:InstOk x) (hn:x.orders.length<=4) {m:List Vis} (hr:RightV x m):HY m=QD (Z8 m):=by
 obtain ⟨⟨v,hv,e⟩,hmin⟩:=nO hr.ne;have hi:=hr.inr v hv
 have hS:Z8 m<2^x.orders.length:=by
  rcases Nat.div_eq_zero_iff.1 (hr.lt (XY hx)).2 with h | h
  ·grind [pw]
  ·exact h
 have:=(CZ (Nat.pos_of_ne_zero (EU hr)) hS hn (show (HY m).toNat<x.orders.length by omega)).2 ⟨(hr.bit _).2 ⟨v,hv,Za⟩,fun i _ hb=>by
  obtain ⟨w,hw,e2⟩:=(hr.bit _).1 hb
  grind⟩
 omega
theorem PE {α β:Type} [Inhabited α] [Inhabited β] {f:α->β} {l:List α} {i:Nat} (h:i<l.length):nth (l.map f) i=f (nth l i):=by
 grind [Ze]
theorem gM {l m:List Int} (h:l.Perm m):l.sum=m.sum:=by
 induction h with
 | nil=>rfl
 | cons a _ ih=>grind
 | swap a b l=>grind
 | trans _ _ h1 h2=>omega
theorem MR {x:Inst} {p:Pln} {c e:Int} (hx:InstOk x) (hn:x.orders.length<=4) (h6:x.types.length<=6) (h:ChoR x (allL x) p c e) :
  (e=24/\c=0/\p=zPlC)\/(e=0/\WE x p=0/\XE (QX x p)=(c,0)/\iS Zgi p.routes.length p.routes=p.routes/\ZmJ p.unserved=p.unserved/\ ∀r∈p.routes,Ik r):=by
 have hr:=GQ hx hn;obtain ⟨hl,hcc⟩:=Dz hn h6;have hs: ∀c∈allL x,c.set<9223372036854775808:=fun c h=>(hcc c h).1;rcases h with ⟨g1,_⟩ | ⟨_,⟨c',gc,g2⟩,_⟩ | ⟨_,_,ys,g3,_,g5⟩
 ·omega
 ·rw [hr c' gc] at g2;cases g2
 ·obtain ⟨D,hD⟩: ∃D:Nat,D=20:=⟨20,rfl⟩;have hc:=HI hx hn g3 hr hs;rw [Bf hD] at g5;rcases g5 with ⟨_,rfl,rfl,rfl⟩ | ⟨g6,rfl,rfl,zs,hp,ha,rfl⟩
  ·exact .inl ⟨rfl,rfl,rfl⟩
  ·right
   have hz:=DL x (allL x);have hpk:=BX hc hD x.orders.length 0 zSt _ 20 Za Za hz;obtain ⟨s',hg⟩:=Gn hc (D:=D) x.orders.length 0 zSt _ Za hz;have hin:=Lz hc (D:=D) Za x.orders.length 0 zSt _ 0 Za hz g6;rw [BF] at hin
   have hend:=DJ hc x.orders.length _ zSt 0 (Xf _) (by rw [Nat.sub_self];exact hz) (fun T hT=>by
    rw [Iy _ (Xf _)];have ht:=hx.types.2 T hT;obtain ⟨⟨⟨⟨⟨⟨⟨⟨_,_⟩,h1⟩,_⟩,_⟩,_⟩,_⟩,_⟩,_⟩:=ht;simp only [rng,Zl] at h1
    omega) _ hin
   simp only [mI] at hpk;rw [hpk] at hp ⊢;simp only at hp ⊢
   generalize gr x (allL x) ys D x.orders.length 0 zSt (List.replicate x.orders.length (-1))=g at *
   obtain ⟨q1,q2,q3⟩:=hend;simp only at q1 q2 q3;rw [BF] at q3
   have hmem: ∀c∈zs,c∈allL x:=fun c hcm=>by
    rw [hp.mem_iff,Q7] at hcm;obtain ⟨i,_,i1,i2,_,rfl⟩:=hcm;exact ZD (by have:=hg.rng i Za;omega)
   have hcol: ∀c∈zs,∃(k:Nat) (m:List Vis),k<x.types.length/\Fz x k m=true/\c=Uc x k (Z8 m) m:=fun c hcm=>T5 hx (hmem c hcm)
   have hrt: ∀c∈zs,Z2 x c.route=0/\c.route.typ=c.typ/\(WJ x c.route).1=c.price/\RightV x c.route.visits/\(∀i:Nat,hasO c.route.visits (i:Int)=c.set.toNat.testBit i)/\HY c.route.visits=lo c:=fun c hcm=>by
    obtain ⟨k,m,h1,h2,rfl⟩:=hcol c hcm;have hR:RightV x m:=Wd (r:=Di (k:Int) m) (VO h2);refine ⟨VO h2,rfl,rfl,hR,fun i=> ?_,?_⟩
    ·show hasO m (i:Int)=((Z8 m:Nat):Int).toNat.testBit i
     rw [X6,YO,hR.bit,Xj]
    ·show HY m=QD ((Z8 m:Nat):Int).toNat
     rw [X6,Zbw hx hn hR]
   have cntr: ∀i,i<x.orders.length->UB (zs.map (·.route)) i=if 0<=nth g i then 1 else 0:=fun i hi=>by
    have e:(zs.map (·.route)).countP (fun r=>hasO r.visits (i:Int))=zs.countP fun c=>c.set.toNat.testBit i:=by
     rw [List.countP_map]
     exact List.countP_congr fun c hcm=>by simp only [Function.comp,(hrt c hcm).2.2.2.2.1 i]
    rw [UB,e,hp.countP_eq,tV hc hg hi]
    split<;>rfl
   have cntu: ∀i,i<x.orders.length->Wb (UA x g x.orders.length 0) i=if nth g i<0/\(nth x.orders i).off=false then 1 else 0:=fun i hi=>by
    rw [Wb,tW hi]
    split<;>rfl
   have cntt: ∀t,t<x.types.length->Bj (zs.map (·.route)) t<=(nth x.types t).count:=fun t ht=>by
    have e:(zs.map (·.route)).countP (fun r=>decide (r.typ=(t:Int)))=zs.countP fun c=>decide (c.typ=(t:Int)):=by
     rw [List.countP_map]
     exact List.countP_congr fun c hcm=>by simp only [Function.comp,(hrt c hcm).2.1]
    have h2:=TL hc hg (t:Int) x.orders.length 0 Za;rw [XJ,usdI,Vh] at h2;rw [Bj,e,hp.countP_eq,h2];exact q1 t ht
   have hoffg: ∀i,i<x.orders.length->0<=nth g i->(nth x.orders i).off=false:=fun i hi h0=>by
    have hr:=hg.rng i hi;exact ((hc.set (ZD (l:=allL x) (i:=(nth g i).toNat) Za)).2.2.2 i (hg.own i hi h0)).2
   have hchk:WE x ⟨false,zs.map (·.route),false,UA x g x.orders.length 0⟩=0:=by
    have c0:ZdS x (zs.map (·.route))=0:=Lj.2 fun r hr=>by
     obtain ⟨c,hcm,rfl⟩:=Xg.1 hr;exact (hrt c hcm).1
    have c1:C0 x (UA x g x.orders.length 0)=true:=by
     rw [C0,Zv];intro u hu;obtain ⟨i,_,i1,_,_,rfl⟩:=(DZ _ _).1 hu;simp;omega
    have c2:A9 x ⟨false,zs.map (·.route),false,UA x g x.orders.length 0⟩=false:=by
     rw [A9,XV];intro i hi;have hi:=ZQ.1 hi;simp only [FO,cntr i hi,cntu i hi,Zl]
     split<;>split<;>omega
    have c3:AS x ⟨false,zs.map (·.route),false,UA x g x.orders.length 0⟩=false:=by
     rw [AS,XV];intro t ht;have:=cntt t (ZQ.1 ht);simp only [Zl];omega
    have c4:KC x ⟨false,zs.map (·.route),false,UA x g x.orders.length 0⟩=false:=by
     rw [KC,XV];intro i hi;have hi:=ZQ.1 hi;simp only [cntu i hi,ZO,Zl];rintro ⟨h1,h2⟩;rw [if_neg fun e=>by rw [h1] at e;cases e.2] at h2;omega
    have c5:De x ⟨false,zs.map (·.route),false,UA x g x.orders.length 0⟩=false:=by
     rw [De,XV];intro i hi;have hi:=ZQ.1 hi;simp only [FO,cntr i hi,cntu i hi,ZO,Wg,Xq,Zl];rintro ⟨h1,h2⟩
     by_cases h0:0<=nth g i
     ·rw [if_pos h0,if_neg fun e=>Za] at h2;omega
     ·rw [if_neg h0,if_pos ⟨Za,h1⟩] at h2;rcases q2 i Za hi with h | h | h
      ·rw [h1] at h;cases h
      ·omega
      ·omega
    have n1: ¬C0 x (UA x g x.orders.length 0)=false:=by rw [c1];simp
    simp only [WE,c0,c2,c3,c4,c5];rw [if_neg Zb,if_neg n1]
    rfl
   obtain ⟨hpp,hps⟩:=GK hx hn hchk;have hfit:=(Iq hx hn hchk).1
   have hsum:(XE (QX x ⟨false,zs.map (·.route),false,UA x g x.orders.length 0⟩)).1=Lx x ys D zSt:=by
    rw [hps,q3,<- TM hc hg x.orders.length 0 Za]
    congr 1
    simp only [List.map_map];rw [show zs.map ((fun r=>(WJ x r).1)∘fun c=>c.route)=zs.map (·.price) from YG fun c hcm=>(hrt c hcm).2.2.1];exact gM (hp.map _)
   refine ⟨trivial,hchk,Prod.ext hsum hfit,?_,?_,fun r hr=> ?_⟩
   ·refine P1 (fun a b hab hb=> ?_) _ (Xf _);simp only [Zx] at hb;rw [PE hb,PE (show a<zs.length by omega)];have h1:=UH.1 ha a b Za hb hab;rw [Ql,<- Ze hb,<- Ze (show a<zs.length by omega)] at h1;obtain ⟨_,a1,_,_,_,a2⟩:=hrt _ (ZD (show a<zs.length by omega));obtain ⟨_,b1,_,_,_,b2⟩:=hrt _ (ZD hb);rw [<- a1,<- b1,<- a2,<- b2] at h1;simp only [Zgi,Bool.or_eq_false_iff,Bool.and_eq_false_iff,XM];omega
   ·exact List.mergeSort_of_pairwise ((M7 (x:=x) (g:=g) x.orders.length 0).imp fun {a b} h=>by simp;omega)
   ·obtain ⟨c,hcm,rfl⟩:=Xg.1 hr;exact (hcc c (hmem c hcm)).2
set_option maxRecDepth 60000
theorem Zjn {g:FuncId} {args:List V} {R:List Pln->List Inst->Int->Prop} {H:List AM.Obj} {K:V->List AM.Obj->Prop} (h:ACalls Tryz.prog g args [] fun y H'=> ∃P X e,R P X e/\y=Ib P X e/\H'= []) (k: ∀P X e,R P X e->K (Ib P X e) H) (ha:Xd 0 args=true:=by rfl):ACalls Tryz.prog g args H K :=
 (h.behind ha H).mono fun x H' hq=>by
  obtain ⟨y,H1,⟨P,X,e,hr,rfl,rfl⟩,rfl,rfl⟩:=hq
  simp_all [Ib,shV,shVs]
theorem PlanR.done {ds:List Inst} {P:List Pln} {X:List Inst} (h:PlanR ds P X 0):WkS ds P X ds.length:=by
 obtain ⟨P',X',k,hk,_,⟨rfl,_,rfl,rfl⟩ | ⟨_,h,_⟩⟩:=h
 ·exact hk
 omega
theorem HT (ds:List Inst) (c:Bool) (o:Pln) (day:Int) (h1:ds.length<=1048576) (hw: ∀x∈ds,x.wf 1048576) (ho:o.wf 1048576) :
  PC 4 [.p (.list c (ds.map ZG)),.p (Ue o),.p (.int .i64 day)] (.bool true):=by
 have haw:=RC;have hro:=ho.1;have cpl:=SO [o] false Zb (fun q hq=>by grind);refine Q8 [] Tryz.func4 rfl Zmp ?_;simp (disch:=omega) only [Tryz.f4,go_sem,seval];refine (Tf ds c h1 hw).useV fun b hb=>Wt ?_
 cases b with
 | false =>
  refine Zbx ?_;refine (haw).use ?_;simp (disch:=omega) only [go_sem,seval]
 | true =>
  refine ZbN ?_;refine gF ?_ ?_<;>intro h2<;>simp (disch:=omega) only [Sh.out h2,go_sem,seval,↓reduceIte]
  ·refine (haw).use ?_;simp (disch:=omega) only [go_sem,seval]
  ·refine gF ?_ ?_<;>intro h3<;>simp (disch:=omega) only [Sh.out h3,go_sem,seval,↓reduceIte]
   ·refine (haw).use ?_;simp (disch:=omega) only [go_sem,seval]
   ·refine ACalls.view (cpl) (by rfl) (by rfl) (Wt ?_)
    cases hpl:plB [o] with
    | false =>
     refine Zbx ?_;refine (haw).use ?_;simp (disch:=omega) only [go_sem,seval]
    | true =>
     refine ZbN ?_;obtain ⟨g1,g2⟩:=hb rfl;have hD: ∀x∈ds,TI x:=fun x hx=>⟨g2 x hx,hw x hx⟩;obtain ⟨n,rfl⟩: ∃n:Nat,day=n:=⟨day.toNat,Za⟩;refine Zjn (gN ds c g1 hD) fun P X e hR=> ?_;simp (disch:=omega) only [Ib,go_sem,seval];refine cD ?_ ?_<;>intro h4<;>simp (disch:=omega) only [Sh.out h4,go_sem,seval]
     ·refine (haw).use ?_;simp (disch:=omega) only [go_sem,seval]
     ·have he:e=0:=Za
      subst he
      have hn:n<ds.length:=Za
      have hk:=hR.done;have hpl2:=hk.pl;have hxl:=hk.xl;obtain ⟨f1,f2,f3,f4,f5,f6,f7⟩:=hk.facts hD (Xf _) hn;obtain ⟨_,_,cc,hch⟩:=hk.st n hn
      obtain ⟨hv1,hv2⟩:WE (nth X n) (nth P n)=0/\XE (QX (nth X n) (nth P n))=(cc,0):=by
       grind [MR]
      have hle:WE (nth X n) o=0->(∀r∈o.routes,r.start=0/\r.rests= [])->HD (QX (nth X n) (nth P n)) (QX (nth X n) o)<=0:=fun k1 k2=>by
       obtain ⟨_,l1,l2⟩:=LL f1 Za Za hch k1 k2
       grind [wE]
      have ck:=OV (nth X n) (nth P n) f1 Za Za f7;have cs:=GT (nth X n) (nth P n) f1 Za Za f7;have hb:=oO ho;have co:=GT (nth X n) o f1 ho.1 ho.2.2.1 hb;rw [hv1] at ck cs;generalize QX (nth X n) (nth P n)=A at cs hle;generalize QX (nth X n) o=B at co hle;have ccm:=La A B;generalize HD A B=C at hle ccm;generalize WE (nth X n) o=E at co hle;refine XR ?_;simp (disch:=omega) only [hpl2,hxl,go_sem,seval];refine Zp (ck) (Wt ?_);refine Zk [2,4,7,8] (fun k:Nat=> [(10,.p (.int .i64 k))]) (fun _=> [X8 o,.elems 2 [Ue o]]) (fun k=>k<=o.routes.length/\ ∀j,j<k->(nth o.routes j).start=0/\(nth o.routes j).rests= []) (fun k=>o.routes.length-k) 0 ⟨Za,fun j hj=>Za⟩ (Weak.mk ?_) ?_
      ·simp (disch:=omega) only [X8,go_sem,seval]
      ·rintro k ⟨hkl,h0⟩;refine Zbu ?_;refine cD ?_ ?_<;>intro h6<;>simp (disch:=omega) only [Sh.out h6,go_sem,seval,↓reduceIte]
       ·have hk2:k<o.routes.length:=Za
        obtain ⟨b1,b2⟩:=hb _ (ZD hk2);refine gF ?_ ?_<;>intro h7<;>simp (disch:=omega) only [Sh.out h7,go_sem,seval,↓reduceIte]
        ·refine (haw).use ?_;simp (disch:=omega) only [go_sem,seval]
        ·refine ZN ?_ ?_<;>intro h8
         ·refine (haw).use ?_;simp (disch:=omega) only [go_sem,seval]
         ·refine ⟨k+1,⟨Za,fun j hj=> ?_⟩,Za,wk⟩;rcases Wh j k with h | h
          ·exact h0 j h
          ·obtain rfl:j=k:=Za
           simp_all
       ·have hke:k=o.routes.length:=Za
        subst hke
        have h00: ∀r∈o.routes,r.start=0/\r.rests= []:=fun r hr=>by
         obtain ⟨j,hj,rfl⟩:=ZP.1 hr
         grind [Ze]
        refine Xa [12,13] 14 mixed Zd Zd Zd Zb (Wt ?_);refine Wr cs (Wt ?_);refine ZF 12 _ _ Zd (by refine Wt ?_;exact ⟨rfl,rfl⟩) ?_;refine Wt ?_;refine ZF 13 _ _ Zd (by refine Wt ?_;exact ⟨rfl,rfl⟩) (X5 ?_);refine Wt ?_;refine Xa [9,10] 11 mixed Zd Zd Zd Zb (Wt ?_);refine Wr co (Wt ?_);refine ZF 9 _ _ Zd (by refine Wt ?_;exact ⟨rfl,rfl⟩) ?_
        refine Wt ?_;refine ZF 10 _ _ Zd (by refine Wt ?_;exact ⟨rfl,rfl⟩) (X5 ?_);refine Wt ?_;refine gF ?_ ?_<;>intro h9<;>simp (disch:=omega) only [Sh.out h9,go_sem,seval,↓reduceIte]
        ·refine (haw).use ?_;simp (disch:=omega) only [go_sem,seval,↓reduceIte]
        ·have h10:=hle Za h00;refine (ccm).use (Wt ?_);simp (disch:=omega) only [Yq h10,go_sem,seval];refine (haw).use (Wt ?_);simp [h10]
end Go.Proofs.YtiigdaohjanidaaGreatDoor.K
