/- Declarations that the closing texts need, part 24: joined by tools/slim.py. -/
import Derived.Test.YtiigdaohjanidaaGreatDoorH23
import Derived.Shelf.Slices.In.SortNone
import Derived.Shelf.Sort.Plain
set_option linter.unusedVariables false
set_option linter.unusedSimpArgs false
namespace Go.Proofs.YtiigdaohjanidaaGreatDoor.K
open Go Go.AM Go.Proofs
set_option maxRecDepth 8000
set_option maxHeartbeats 8000000
def Zma (l:List Int):List Int:=l.mergeSort fun x y=>decide (x<=y)
def Hv (x:Inst) (l:List Col) (g:List Int) (k:Nat):Int:=if (nth x.orders k).off=true then 0 else if 0<=nth g k then (if Qx (nth l (nth g k).toNat).set.toNat=(k:Int) then (nth l (nth g k).toNat).price else 0) else skR x k
def RR (x:Inst) (l:List Col) (g:List Int):Nat->Int
 | 0=>0
 | d+1=>Hv x l g (x.orders.length-(d+1))+RR x l g d
theorem Dt {x:Inst} {l ys:List Col} (hc:Ctx x l ys): ∀(d:Nat) (a:List Int) (s:St) (p:Int),d<=x.orders.length->Nd x l a s (x.orders.length-d)->(∀T:Nat,T<x.types.length->(usdI l a T x.orders.length:Int)<=(nth x.types T).count)-> ∀q∈Fl x l d a p,
  (∀T:Nat,T<x.types.length->(usdI l q.1 T x.orders.length:Int)<=(nth x.types T).count)/\(∀t,x.orders.length-d<=t->t<x.orders.length->(nth x.orders t).off=true\/0<=nth q.1 t\/0<=(nth x.orders t).penalty)/\q.2=p+RR x l q.1 d
 | 0,a,s,p,_,h,hu,q,hq=>by
  simp only [Fl,Xs,Jd,or_false] at hq
  grind [RR]
 | d+1,a,s,p,hd,h,hu,q,hq=>by
  obtain ⟨k,hk⟩: ∃k,k=x.orders.length-(d+1):=⟨_,rfl⟩
  have hkn:k<x.orders.length:=Za
  have hk1:x.orders.length-d=k+1:=Za
  rw [<- hk] at h ⊢;rw [Fl,<- hk] at hq;rw [RR,<- hk];have old:=fun (a:List Int) (p:Int) (hl:a.length=x.orders.length) (hq:q∈Fl x l d a p)=>(K2 d a p Za hl q hq).2 k hkn (.inl Za)
  split at hq
  ·rename_i ho;obtain ⟨i1,i2,i3⟩:=Dt hc d a (DD s) p Za (by rw [hk1];exact h.skip' hkn) hu q hq;have e:=old a p h.len hq;refine ⟨i1,fun t h1 h2=> ?_,?_⟩
   ·grind
   ·have z:Hv x l q.1 k=0:=by
     unfold Hv;rcases ho with ho | ho
     ·grind
     ·split
      ·rfl
      ·rw [e,if_pos ho,if_neg fun htz=> ?_];obtain ⟨t,t1,t2⟩:=h.old k hkn (Xg _) ho;have hr:=h.rng k hkn;obtain ⟨_,s0,s1,_⟩:=hc.set (ZD (l:=l) (i:=(nth a k).toNat) Za);have:=((CL s0 s1 hc.n4 hkn).1 htz).2 t Za t2;omega
    omega
  ·rename_i ho;have hoff: ¬(nth x.orders k).off=true:=fun e=>ho (.inl e);have hak:nth a k<0:=Ji.1 fun g=>ho (.inr g);rw [Xr,We] at hq;rcases hq with ⟨j,hj,hq⟩ | hq
   ·have hj:=ZL.1 hj
    split at hq
    ·rename_i hcan;obtain ⟨hy,htz⟩:=(Hq hc h hkn hj).1 hcan;have hch:=h.child hc hkn hj hcan;obtain ⟨c1,c2⟩:=KF h.len hcan;have hcan':=hcan;simp only [Hp,Zt,Zl,Dy,h.len] at hcan';obtain ⟨hb,hcnt,hneg⟩:=hcan'
     have hfr: ∀i,i<x.orders.length->(nth l j).set.toNat.testBit i=false->nth a i≠(j:Int):=fun i hi _ e=>by
      have:=h.grp i hi Za k hkn (by simp_all);omega
     obtain ⟨i1,i2,i3⟩:=Dt hc d _ _ _ Za (by rw [hk1];exact hch) (fun T hT=>by
      rw [CO h.len hkn hb hneg hfr T _ (Xg _)];have h0:=hu T hT
      by_cases e:(nth l j).typ=(T:Int)
      ·rw [if_pos ⟨hkn,e⟩]
       grind [X3]
      grind) q hq
     have e:=old _ _ (by rw [Kr];exact h.len) hq;rw [XF (by rw [h.len];exact hkn),if_pos c1] at e;refine ⟨i1,fun t h1 h2=> ?_,?_⟩
     ·grind
     ·have z:Hv x l q.1 k=(nth l j).price:=by
       unfold Hv;rw [if_neg hoff,e,if_pos Za,X3,if_pos htz]
      omega
    ·simp at hq
   ·split at hq
    ·rename_i hpen;obtain ⟨i1,i2,i3⟩:=Dt hc d a (DD s) _ Za (by rw [hk1];exact h.skip' hkn) hu q hq;have e:=old a _ h.len hq;refine ⟨i1,fun t h1 h2=> ?_,?_⟩
     ·grind
     ·have z:Hv x l q.1 k=skR x k:=by
       simp_all [Hv,if_neg]
      omega
    ·simp at hq
theorem vT {x:Inst} {l ys:List Col} (hc:Ctx x l ys) {g:List Int} {s:St} (hg:Nd x l g s x.orders.length) {k:Nat} (hk:k<x.orders.length) (h0:0<=nth g k):Nt g k=true↔Qx (nth l (nth g k).toNat).set.toNat=(k:Int):=by
 have hr:=hg.rng k hk;obtain ⟨_,s0,s1,_⟩:=hc.set (ZD (l:=l) (i:=(nth g k).toNat) Za);rw [Bi,CL s0 s1 hc.n4 hk]
 constructor
 ·intro h;refine ⟨hg.own k hk h0,fun i hi hb=>Nat.le_of_not_lt fun hlt=>h i hlt (hg.grp k hk h0 i hi hb)⟩
 ·rintro ⟨_,h⟩ t ht e;have h2:=hg.own t Za Za
  grind
theorem TF {x:Inst} {l ys:List Col} (hc:Ctx x l ys) {g:List Int} {s:St} (hg:Nd x l g s x.orders.length) (T:Int): ∀d k,k+d=x.orders.length->(RA l g d k).countP (fun c=>decide (c.typ=T))+usdI l g T k=usdI l g T (k+d)
 | 0,k,_=>by simp [RA]
 | d+1,k,h=>by
  have ih:=TF hc hg T d (k+1) Za
  have hk:k<x.orders.length:=Za
  rw [RA,List.countP_append,show k+(d+1)=k+1+d by omega,<- ih,usdI,Fc]
  by_cases h0:0<=nth g k
  ·have hf:=vT hc hg hk h0
   by_cases ht:Qx (nth l (nth g k).toNat).set.toNat=(k:Int)
   ·rw [if_pos ⟨h0,ht⟩,hf.2 ht,YJ h0]
    by_cases hT:(nth l (nth g k).toNat).typ=T
    ·simp [hT];omega
    ·simp [hT]
   ·rw [if_neg fun e=>ht e.2,show Nt g k=false from by
     cases e:Nt g k with
     | false=>rfl
     | true=>exact absurd (hf.1 e) ht]
    simp
  ·rw [if_neg fun e=>h0 e.1,YZ h0];simp
theorem AA {α:Type} {p:α->Bool} : ∀ {l:List α},(l.Pairwise fun a b=> ¬(p a=true/\p b=true))->l.countP p<=1
 | [],_=>Zb
 | a::l,h=>by
  rw [List.pairwise_cons] at h;have ih:=AA h.2;rw [BA]
  split
  ·rename_i ha;have:l.countP p=0:=KP.2 fun b hb hpb=>h.1 b hb ⟨ha,hpb⟩;omega
  ·omega
theorem ZiN : ∀S:Fin 16,0<S.val-> ∃k:Fin 4,Qx S.val=(k.val:Int)/\S.val.testBit k.val=true:=by decide+kernel
theorem sY {x:Inst} {l ys:List Col} (hc:Ctx x l ys) {g:List Int} {s:St} (hg:Nd x l g s x.orders.length) {i:Nat} (hi:i<x.orders.length):(RA l g x.orders.length 0).countP (fun c=>c.set.toNat.testBit i)=if 0<=nth g i then 1 else 0:=by
 have hin: ∀t,t<x.orders.length->0<=nth g t->nth l (nth g t).toNat∈l:=fun t ht h0=>ZD (by have:=hg.rng t ht;omega)
 split
 ·rename_i h0;refine Nat.le_antisymm (AA ?_) (Qo.2 ?_)
  ·refine (MR x.orders.length 0).imp_of_mem fun {a b} ha hb h hh=> ?_;obtain ⟨t,_,t1,t2,t3,rfl⟩:=(QW _ _).1 ha;obtain ⟨u,_,u1,u2,u3,rfl⟩:=(QW _ _).1 hb;have e1:=hg.grp t Za t2 i hi hh.1;have e2:=hg.grp u Za u2 i hi hh.2
   grind
  ·have hm:=hin i hi h0;obtain ⟨_,s0,s1,s2⟩:=hc.set hm;have h16:(nth l (nth g i).toNat).set.toNat<16:=Uy s1 (Ys (n:=2) Za hc.n4);obtain ⟨k,k1,k2⟩:=ZiN ⟨_,h16⟩ s0;simp only at k1 k2;have hk:=(s2 _ k2).1;have e:=hg.grp i hi h0 k.val hk k2;refine ⟨nth l (nth g i).toNat,(QW _ _).2 ⟨k.val,Za,Za,Za,by grind,by rw [e]⟩,hg.own i hi h0⟩
 ·rename_i h0;refine KP.2 fun c hcm hb=>h0 ?_;obtain ⟨t,_,t1,t2,t3,rfl⟩:=(QW _ _).1 hcm;rw [hg.grp t Za t2 i hi hb];exact t2
theorem DI {x:Inst} {g:List Int} {u:Int} : ∀d k,u∈UA x g d k↔ ∃i,k<=i/\i<k+d/\nth g i<0/\(nth x.orders i).off=false/\u=(i:Int)
 | 0,k=>by simp [UA];omega
 | d+1,k=>by
  rw [UA,Xr,DI d (k+1)]
  grind
theorem MS {x:Inst} {g:List Int} : ∀d k,(UA x g d k).Pairwise fun a b=>a<b
 | 0,k=> .nil
 | d+1,k=>by
  rw [UA,Bv];refine ⟨?_,MS d (k+1),fun a ha b hb=> ?_⟩
  ·split<;>simp
  ·split at ha
   ·obtain ⟨i,h1,h2,h3,h4,rfl⟩:=(DI _ _).1 hb
    grind
   ·simp at ha
theorem sZ {x:Inst} {g:List Int} {i:Nat} (hi:i<x.orders.length):(UA x g x.orders.length 0).countP (fun u=>decide (u=(i:Int)))=if nth g i<0/\(nth x.orders i).off=false then 1 else 0:=by
 split
 ·rename_i h;refine Nat.le_antisymm (AA ((MS _ _).imp fun {a b} h hh=> ?_)) (Qo.2 ⟨(i:Int),(DI _ _).2 ⟨i,Za,Za,h.1,h.2,rfl⟩,Zb⟩)
  grind
 ·rename_i h;refine KP.2 fun u hu e=>h ?_;obtain ⟨j,_,j1,j2,j3,rfl⟩:=(DI _ _).1 hu
  grind
theorem TG {x:Inst} {l ys:List Col} (hc:Ctx x l ys) {g:List Int} {s:St} (hg:Nd x l g s x.orders.length): ∀d k,k+d=x.orders.length->((RA l g d k).map (·.price)).sum+((UA x g d k).map fun u=>skR x u.toNat).sum=RR x l g d
 | 0,k,_=>by rfl
 | d+1,k,h=>by
  have ih:=TG hc hg d (k+1) Za
  have hk:k<x.orders.length:=Za
  rw [RA,UA,RR,<- ih,XY,XY,List.sum_append,List.sum_append,show x.orders.length-(d+1)=k by omega]
  have key:((if 0<=nth g k/\Qx (nth l (nth g k).toNat).set.toNat=(k:Int) then [nth l (nth g k).toNat] else []).map (·.price)).sum+((if nth g k<0/\(nth x.orders k).off=false then [(k:Int)] else []).map fun u=>skR x u.toNat).sum=Hv x l g k:=by
   unfold Hv
   by_cases h0:0<=nth g k
   ·have hr:=hg.rng k hk;have ho:(nth x.orders k).off=false:=((hc.set (ZD (l:=l) (i:=(nth g k).toNat) Za)).2.2.2 k (hg.own k hk h0)).2
    have e0: ¬(nth g k<0/\(nth x.orders k).off=false):=fun e=>Za
    have e1: ¬(nth x.orders k).off=true:=by rw [ho];simp
    rw [if_neg e0,if_neg e1,if_pos h0]
    by_cases ht:Qx (nth l (nth g k).toNat).set.toNat=(k:Int)
    ·rw [if_pos ⟨h0,ht⟩,if_pos ht];simp
    ·rw [if_neg fun e=>ht e.2,if_neg ht];simp
   ·rw [if_neg fun e=>h0 e.1]
    cases ho:(nth x.orders k).off with
    | true=>simp
    | false=>rw [if_pos ⟨Za,rfl⟩,if_neg Zb,if_neg h0];simp
  omega
theorem TZ {x:Inst} (hx:InstOk x) {c:Col} (h:c∈allL x): ∃(k:Nat) (m:List Vis),k<x.types.length/\HS x k m=true/\c=VZ x k (XP m) m:=by
 obtain ⟨k,S,h1,h2,h3,h4,rfl⟩:=DQ.1 h;have hf:=YV hx
 have hopn:0<=(nth x.types ((k:Nat):Int).toNat).opn:=by
  simp_all [VK]
 unfold JV at h4 ⊢
 split at h4
 ·rename_i hc;rw [if_pos hc];have hS:S / pw x.orders.length=0:=Je h3;have ha:Alw x S:=(CT (by have:=hf.len;omega) hS hf.val).1 hc.1;rw [uT hx Za hS ha hopn] at hc ⊢;rcases CN _ _ hc.2 with ⟨e,_⟩ | ⟨m,m1,m2,m3⟩
  ·cases e
  ·have m3:(uS x (k:Int) S (UO,false)).1=_:=m3;simp only [okR,Zt,Zl] at m2;have hr:RightV x m:=WT (r:=EW (k:Int) m) (Kc m2.2.2);have e:=m2.1;rw [hr.ord hf] at e
   grind
 ·simp at h4
theorem mW : ∀ {l:List Vis},l≠ []->(∃v∈l,v.order=HK l)/\ ∀v∈l,HK l<=v.order:=by
 intro l h
 cases l with
 | nil=>grind
 | cons v m =>
  have key: ∀(m:List Vis) (n:Int),(m.foldl (fun n w=>if w.order<n then w.order else n) n=n\/ ∃w∈m,w.order=m.foldl (fun n w=>if w.order<n then w.order else n) n)/\m.foldl (fun n w=>if w.order<n then w.order else n) n<=n/\ ∀w∈m,m.foldl (fun n w=>if w.order<n then w.order else n) n<=w.order:=fun m=>by
   induction m with
   | nil=>simp
   | cons w m ih =>
    grind
  obtain ⟨k1,k2,k3⟩:=key m v.order;rw [HK]
  grind
theorem Za9 {x:Inst} (hx:InstOk x) (hn:x.orders.length<=4) {m:List Vis} (hr:RightV x m):HK m=Qx (XP m):=by
 obtain ⟨⟨v,hv,e⟩,hmin⟩:=mW hr.ne;have hi:=hr.inr v hv
 have hS:XP m<2^x.orders.length:=by
  rcases Nat.div_eq_zero_iff.1 (hr.lt (YV hx)).2 with h | h
  ·grind [pw]
  ·exact h
 have:=(CL (Nat.pos_of_ne_zero (fK hr)) hS hn (show (HK m).toNat<x.orders.length by omega)).2 ⟨(hr.bit _).2 ⟨v,hv,Za⟩,fun i _ hb=>by
  obtain ⟨w,hw,e2⟩:=(hr.bit _).1 hb
  grind⟩
 omega
theorem Pp {α β:Type} [Inhabited α] [Inhabited β] {f:α->β} {l:List α} {i:Nat} (h:i<l.length):nth (l.map f) i=f (nth l i):=by
 grind [Ze]
theorem gA {l m:List Int} (h:l.Perm m):l.sum=m.sum:=by
 induction h with
 | nil=>rfl
 | cons a _ ih=>grind
 | swap a b l=>grind
 | trans _ _ h1 h2=>omega
theorem MD {x:Inst} {p:Pln} {c e:Int} (hx:InstOk x) (hn:x.orders.length<=4) (h6:x.types.length<=6) (h:ChoR x (allL x) p c e) :
  (e=24/\c=0/\p=zPlC)\/(e=0/\Wu x p=0/\XW (Jx x p)=(c,0)/\iH ZfR p.routes.length p.routes=p.routes/\Zma p.unserved=p.unserved/\ ∀r∈p.routes,L6 r):=by
 have hr:=SP hx hn;obtain ⟨hl,hcc⟩:=G3 hn h6;have hs: ∀c∈allL x,c.set<9223372036854775808:=fun c h=>(hcc c h).1;rcases h with ⟨g1,_⟩ | ⟨_,⟨c',gc,g2⟩,_⟩ | ⟨_,_,ys,g3,_,g5⟩
 ·omega
 ·rw [hr c' gc] at g2;cases g2
 ·obtain ⟨D,hD⟩: ∃D:Nat,D=20:=⟨20,rfl⟩;have hc:=Nj hx hn g3 hr hs;rw [D1 hD] at g5;rcases g5 with ⟨_,rfl,rfl,rfl⟩ | ⟨g6,rfl,rfl,zs,hp,ha,rfl⟩
  ·exact .inl ⟨rfl,rfl,rfl⟩
  ·right
   have hz:=HN x (allL x);have hpk:=BL hc hD x.orders.length 0 zSt _ 20 Za Za hz;obtain ⟨s',hg⟩:=Ge hc (D:=D) x.orders.length 0 zSt _ Za hz;have hin:=Ll hc (D:=D) Za x.orders.length 0 zSt _ 0 Za hz g6;rw [KZ] at hin
   have hend:=Dt hc x.orders.length _ zSt 0 (Xg _) (by rw [Nat.sub_self];exact hz) (fun T hT=>by
    rw [Io _ (Xg _)];have ht:=hx.types.2 T hT;obtain ⟨⟨⟨⟨⟨⟨⟨⟨_,_⟩,h1⟩,_⟩,_⟩,_⟩,_⟩,_⟩,_⟩:=ht;simp only [rng,Zl] at h1
    omega) _ hin
   simp only [mI] at hpk;rw [hpk] at hp ⊢;simp only at hp ⊢
   generalize gr x (allL x) ys D x.orders.length 0 zSt (List.replicate x.orders.length (-1))=g at *
   obtain ⟨q1,q2,q3⟩:=hend;simp only at q1 q2 q3;rw [KZ] at q3
   have hmem: ∀c∈zs,c∈allL x:=fun c hcm=>by
    rw [hp.mem_iff,QW] at hcm;obtain ⟨i,_,i1,i2,_,rfl⟩:=hcm;exact ZD (by have:=hg.rng i Za;omega)
   have hcol: ∀c∈zs,∃(k:Nat) (m:List Vis),k<x.types.length/\HS x k m=true/\c=VZ x k (XP m) m:=fun c hcm=>TZ hx (hmem c hcm)
   have hrt: ∀c∈zs,Z4 x c.route=0/\c.route.typ=c.typ/\(V7 x c.route).1=c.price/\RightV x c.route.visits/\(∀i:Nat,hasO c.route.visits (i:Int)=c.set.toNat.testBit i)/\HK c.route.visits=lo c:=fun c hcm=>by
    obtain ⟨k,m,h1,h2,rfl⟩:=hcol c hcm;have hR:RightV x m:=WT (r:=EW (k:Int) m) (Kc h2);refine ⟨Kc h2,rfl,rfl,hR,fun i=> ?_,?_⟩
    ·show hasO m (i:Int)=((XP m:Nat):Int).toNat.testBit i
     rw [X3,YY,hR.bit,XL]
    ·show HK m=Qx ((XP m:Nat):Int).toNat
     rw [X3,Za9 hx hn hR]
   have cntr: ∀i,i<x.orders.length->Ur (zs.map (·.route)) i=if 0<=nth g i then 1 else 0:=fun i hi=>by
    have e:(zs.map (·.route)).countP (fun r=>hasO r.visits (i:Int))=zs.countP fun c=>c.set.toNat.testBit i:=by
     rw [List.countP_map]
     exact List.countP_congr fun c hcm=>by simp only [Function.comp,(hrt c hcm).2.2.2.2.1 i]
    rw [Ur,e,hp.countP_eq,sY hc hg hi]
    split<;>rfl
   have cntu: ∀i,i<x.orders.length->Wc (UA x g x.orders.length 0) i=if nth g i<0/\(nth x.orders i).off=false then 1 else 0:=fun i hi=>by
    rw [Wc,sZ hi]
    split<;>rfl
   have cntt: ∀t,t<x.types.length->A5 (zs.map (·.route)) t<=(nth x.types t).count:=fun t ht=>by
    have e:(zs.map (·.route)).countP (fun r=>decide (r.typ=(t:Int)))=zs.countP fun c=>decide (c.typ=(t:Int)):=by
     rw [List.countP_map]
     exact List.countP_congr fun c hcm=>by simp only [Function.comp,(hrt c hcm).2.1]
    have h2:=TF hc hg (t:Int) x.orders.length 0 Za;rw [XE,usdI,Vr] at h2;rw [A5,e,hp.countP_eq,h2];exact q1 t ht
   have hoffg: ∀i,i<x.orders.length->0<=nth g i->(nth x.orders i).off=false:=fun i hi h0=>by
    have hr:=hg.rng i hi;exact ((hc.set (ZD (l:=allL x) (i:=(nth g i).toNat) Za)).2.2.2 i (hg.own i hi h0)).2
   have hchk:Wu x ⟨false,zs.map (·.route),false,UA x g x.orders.length 0⟩=0:=by
    have c0:Ag x (zs.map (·.route))=0:=I4.2 fun r hr=>by
     obtain ⟨c,hcm,rfl⟩:=XD.1 hr;exact (hrt c hcm).1
    have c1:CM x (UA x g x.orders.length 0)=true:=by
     rw [CM,Zy];intro u hu;obtain ⟨i,_,i1,_,_,rfl⟩:=(DI _ _).1 hu;simp;omega
    have c2:AU x ⟨false,zs.map (·.route),false,UA x g x.orders.length 0⟩=false:=by
     rw [AU,XS];intro i hi;have hi:=ZL.1 hi;simp only [FD,cntr i hi,cntu i hi,Zl]
     split<;>split<;>omega
    have c3:AB x ⟨false,zs.map (·.route),false,UA x g x.orders.length 0⟩=false:=by
     rw [AB,XS];intro t ht;have:=cntt t (ZL.1 ht);simp only [Zl];omega
    have c4:Ku x ⟨false,zs.map (·.route),false,UA x g x.orders.length 0⟩=false:=by
     rw [Ku,XS];intro i hi;have hi:=ZL.1 hi;simp only [cntu i hi,Zt,Zl];rintro ⟨h1,h2⟩;rw [if_neg fun e=>by rw [h1] at e;cases e.2] at h2;omega
    have c5:C2 x ⟨false,zs.map (·.route),false,UA x g x.orders.length 0⟩=false:=by
     rw [C2,XS];intro i hi;have hi:=ZL.1 hi;simp only [FD,cntr i hi,cntu i hi,Zt,Wf,Yr,Zl];rintro ⟨h1,h2⟩
     by_cases h0:0<=nth g i
     ·rw [if_pos h0,if_neg fun e=>Za] at h2;omega
     ·rw [if_neg h0,if_pos ⟨Za,h1⟩] at h2;rcases q2 i Za hi with h | h | h
      ·rw [h1] at h;cases h
      ·omega
      ·omega
    have n1: ¬CM x (UA x g x.orders.length 0)=false:=by rw [c1];simp
    simp only [Wu,c0,c2,c3,c4,c5];rw [if_neg Zb,if_neg n1]
    rfl
   obtain ⟨hpp,hps⟩:=SE hx hn hchk;have hfit:=(PH hx hn hchk).1
   have hsum:(XW (Jx x ⟨false,zs.map (·.route),false,UA x g x.orders.length 0⟩)).1=Lx x ys D zSt:=by
    rw [hps,q3,<- TG hc hg x.orders.length 0 Za]
    congr 1
    simp only [List.map_map];rw [show zs.map ((fun r=>(V7 x r).1)∘fun c=>c.route)=zs.map (·.price) from YX fun c hcm=>(hrt c hcm).2.2.1];exact gA (hp.map _)
   refine ⟨trivial,hchk,Prod.ext hsum hfit,?_,?_,fun r hr=> ?_⟩
   ·refine PM (fun a b hab hb=> ?_) _ (Xg _);simp only [Zv] at hb;rw [Pp hb,Pp (show a<zs.length by omega)];have h1:=Br.1 ha a b Za hb hab;rw [Qg,<- Ze hb,<- Ze (show a<zs.length by omega)] at h1;obtain ⟨_,a1,_,_,_,a2⟩:=hrt _ (ZD (show a<zs.length by omega));obtain ⟨_,b1,_,_,_,b2⟩:=hrt _ (ZD hb);rw [<- a1,<- b1,<- a2,<- b2] at h1;simp only [ZfR,Ds,Bool.and_eq_false_iff,XJ];omega
   ·exact List.mergeSort_of_pairwise ((MS (x:=x) (g:=g) x.orders.length 0).imp fun {a b} h=>by simp;omega)
   ·obtain ⟨c,hcm,rfl⟩:=XD.1 hr;exact (hcc c (hmem c hcm)).2
set_option maxRecDepth 60000
theorem ZiO {g:FuncId} {args:List V} {R:List Pln->List Inst->Int->Prop} {H:List AM.Obj} {K:V->List AM.Obj->Prop} (h:ACalls Tryz.prog g args [] fun y H'=> ∃P X e,R P X e/\y=HW P X e/\H'= []) (k: ∀P X e,R P X e->K (HW P X e) H) (ha:Xd 0 args=true:=by rfl):ACalls Tryz.prog g args H K :=
 (h.behind ha H).mono fun x H' hq=>by
  obtain ⟨y,H1,⟨P,X,e,hr,rfl,rfl⟩,rfl,rfl⟩:=hq
  simp_all [HW,shV,shVs]
theorem PlanR.done {ds:List Inst} {P:List Pln} {X:List Inst} (h:PlanR ds P X 0):WkS ds P X ds.length:=by
 obtain ⟨P',X',k,hk,_,⟨rfl,_,rfl,rfl⟩ | ⟨_,h,_⟩⟩:=h
 ·exact hk
 omega
theorem FB (ds:List Inst) (c:Bool) (h1:ds.length<=1048576) (hw: ∀x∈ds,x.wf 1048576) :
  PC 5 [.p (.list c (ds.map ZF))] (.bool true):=by
 have haw:=Rq;refine AW [] Tryz.func5 rfl ZlO ?_;simp (disch:=omega) only [Tryz.f5,go_sem,seval];refine (S8 ds c h1 hw).useV fun b hb=>Wp ?_
 cases b with
 | false =>
  simp (disch:=omega) only [V4,go_sem,seval];refine (haw).use ?_;simp (disch:=omega) only [go_sem,seval]
 | true =>
  simp (disch:=omega) only [Vw,go_sem,seval];obtain ⟨g1,g2⟩:=hb rfl;have hD: ∀x∈ds,TC x:=fun x hx=>⟨g2 x hx,hw x hx⟩;refine Zk [0] (fun k:Nat=> [(3,.p (.int .i64 k))]) (fun _=> []) (fun k=>k<=ds.length/\ ∀j,j<k-> ∀i,i<(nth ds j).orders.length->(nth (nth ds j).orders i).last= -1) (fun k=>ds.length-k) 0 ⟨Za,fun j hj=>Za⟩ (Weak.mk ?_) ?_
  ·simp (disch:=omega) only [go_sem,seval,↓reduceIte]
  ·rintro k ⟨hk,hno⟩;refine Wp ?_;refine cD ?_ ?_<;>intro h2<;>simp (disch:=omega) only [Sh.out h2,go_sem,seval,↓reduceIte]
   ·have hk2:k<ds.length:=Za
    have hol:=(g2 _ (Zq hk2)).1;refine Zk [0,3] (fun q:Nat=> [(4,.p (.int .i64 q))]) (fun _=> []) (fun q=>q<=(nth ds k).orders.length/\ ∀i,i<q->(nth (nth ds k).orders i).last= -1) (fun q=>(nth ds k).orders.length-q) 0 ⟨Za,fun j hj=>Za⟩ (Weak.mk ?_) ?_
    ·simp (disch:=omega) only [go_sem,seval,↓reduceIte]
    ·rintro q ⟨hq,hin⟩;refine Wp ?_;refine cD ?_ ?_<;>intro h3<;>simp (disch:=omega) only [Sh.out h3,go_sem,seval,↓reduceIte]
     ·have hq2:q<(nth ds k).orders.length:=Za
      refine cD ?_ ?_<;>intro h4<;>simp (disch:=omega) only [Sh.out h4,go_sem,seval,↓reduceIte]
      ·refine (haw).use ?_;simp (disch:=omega) only [go_sem,seval]
      ·exact ⟨q+1,⟨Za,Zm.2 ⟨hin,Za⟩⟩,Za,wk⟩
     ·have hql:q=(nth ds k).orders.length:=Za
      subst hql;exact ⟨k+1,⟨Za,Zm.2 ⟨hno,hin⟩⟩,Za,wk⟩
   ·have hkl:k=ds.length:=Za
    subst hkl;refine ZiO (gB ds c g1 hD) fun P X e hR=> ?_;simp (disch:=omega) only [HW,go_sem,seval];refine cD ?_ ?_<;>intro h4<;>simp (disch:=omega) only [Sh.out h4,go_sem,seval]
    ·refine (haw).use ?_;simp (disch:=omega) only [go_sem,seval]
    ·have he:e=0:=Za
     subst he;have hkk:=hR.done;have hpl:=hkk.pl;have hxl:=hkk.xl;have hf:=fun j (hj:j<ds.length)=>hkk.facts hD (Xg _) hj
     have hv: ∀j,j<ds.length->Wu (nth X j) (nth P j)=0:=fun j hj=>by
      obtain ⟨f1,f2,f3,f4,_⟩:=hf j hj;obtain ⟨_,_,cc,hch⟩:=hkk.st j hj;rcases MD f1 Za Za hch with ⟨h,_⟩ | ⟨_,k1,_⟩
      ·cases h
      ·exact k1
     have hoe:LQ X P=0:=by
      have hev:Tw X P=0:=by rw [Tw,if_neg Za,if_neg Za]
      have hfe: ∀k,k<=ds.length->Be X P k=0:=fun k=>by
       induction k with
       | zero=>intro _;rfl
       | succ k ih =>
        intro hk;rw [Be,if_neg Za]
        grind [dO]
      simp_all [LQ]
     have hon: ∀j,j<ds.length->(Jx (nth X j) (nth P j)).other=AJ X P j:=fun j hj=>by
      obtain ⟨e1,_⟩:=hkk.st j hj;have hvj:=hv j hj
      by_cases h0:j=0
      ·subst h0;rw [AJ,if_pos rfl]
       have e2:nth X 0=mN (nth ds 0):=by rw [e1,dayI,if_pos rfl]
       grind [NM,mN,YS,Ej,UJ]
      ·rw [AJ,if_neg h0]
       have e2:nth X j=Fw (nth ds j) (nth X (j-1)) (nth P (j-1)):=by simp_all [dayI]
       generalize nth X (j-1)=b at e2 ⊢
       grind [NL]
     have co:=fL X P false false Za Za (fun x hx=>by
      obtain ⟨j,hj,rfl⟩:=ZN.1 hx
      grind [Ze]) (fun p hp=>by
      obtain ⟨j,hj,rfl⟩:=ZN.1 hp;rw [<- Ze hj];obtain ⟨f1,f2,f3,f4,f5,f6,f7⟩:=hf j Za
      exact ⟨Za,fun r hr=>(f7 r hr).1⟩)
     rw [nM,if_pos hoe,hxl] at co;have hrl:(YG (AJ X P) ds.length).length=ds.length:=BT;have hrn: ∀j,j<ds.length->nth (YG (AJ X P) ds.length) j=AJ X P j:=fun j hj=>Ko hj;generalize YG (AJ X P) ds.length=N at co hrl hrn;refine CP co ?_;simp (disch:=omega) only [hrl,go_sem,seval];refine Zk [0,5,6,8] (fun k:Nat=> [(10,.p (.int .i64 k))]) (fun _=> []) (fun k=>k<=ds.length) (fun k=>ds.length-k) 0 Zb (Weak.mk ?_) ?_
     ·simp (disch:=omega) only [go_sem,seval,↓reduceIte]
     ·intro k hk3;refine Wp ?_;refine cD ?_ ?_<;>intro h6<;>simp (disch:=omega) only [Sh.out h6,go_sem,seval,↓reduceIte]
      ·have hk4:k<ds.length:=Za
       obtain ⟨f1,f2,f3,f4,f5,f6,f7⟩:=hf k hk4;have cs:=S1 (nth X k) (nth P k) f1 Za Za f7;rw [hv k hk4] at cs;have ho:=hon k hk4;have hn:=hrn k hk4;rw [<- ho] at hn;generalize Jx (nth X k) (nth P k)=A at cs hn;refine Xe [12,13] 14 mixed Zd Zd Zd Zb (Wp ?_);refine YT cs (Wp ?_);refine ZJ 12 _ _ Zd (by refine Wp ?_;exact ⟨rfl,rfl⟩) ?_;refine Wp ?_;refine ZJ 13 _ _ Zd (by refine Wp ?_;exact ⟨rfl,rfl⟩) (Yk ?_);refine Wp ?_
       refine XH ?_;simp (disch:=omega) only [hn,go_sem,seval];exact ⟨k+1,Za,Za,wk⟩
      ·refine (haw).use ?_;simp (disch:=omega) only [go_sem,seval]
end Go.Proofs.YtiigdaohjanidaaGreatDoor.K
