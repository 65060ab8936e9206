/- Declarations that the closing texts need, part 22: joined by tools/slim.py. -/
import Derived.Test.YtiigdaohjanidaaGreatDoorP21
set_option linter.unusedVariables false
set_option linter.unusedSimpArgs false
namespace Go.Proofs.YtiigdaohjanidaaGreatDoor.K
open Go Go.AM Go.Proofs
set_option maxRecDepth 8000
set_option maxHeartbeats 8000000
def Um (x:Inst) (us:List Int):Bool:=us.all fun u=>decide (0<=u)&&decide (u<(x.orders.length:Int))
theorem Mg {x:Inst} {l:List Vis} (hi:Inr x l) (i:Nat) (h:i<=62):IntKind.i64.wrap ((BitVec.ofInt 64 ((ordS l / pw i:Nat):Int)&&&1#64).toNat:Int)=if hasO l (i:Int)=true then 1 else 0:=by
 have h1:=Il ((ordS l / pw i:Nat):Int);rw [show BitVec.ofInt 64 1=1#64 from rfl] at h1;rw [h1]
 have h2:(ordS l).testBit i=hasO l (i:Int):=by
  rw [Yj,YS,Z6]
  constructor
  ·rintro ⟨v,hv,e⟩;exact ⟨v,hv,by have:=hi v hv;omega⟩
  grind
 rw [<- h2,Da];unfold pw
 grind
def bF (x:Inst) (p:Pln) (c:Bool) (A B:List Int):List AM.Obj:= [Zh x,Zu p,.elems 1 ((if c=true then A else B).map eI),.elems 1 ((if c=true then B else A).map eI)]
theorem Mr (x:Inst) (p:Pln) (hn:x.orders.length<=10) (hr:p.routes.length<=1048576) (hu:p.unserved.length<=1048576) (hv: ∀r∈p.routes,Inr x r.visits/\r.visits.length<=1048576) :
  ACalls Tryz.prog 113 [.p (ZE x),.p (Wh p)] [] fun y H'=>y=(if Um x p.unserved=true then .tup [.p (.list false ((Xq (Z3 p.routes) x.orders.length).map eI)),.p (.list false ((Xq (Xx p.unserved) x.orders.length).map eI)),.p (.bool true)] else .tup [.p (.list true []),.p (.list true []),.p (.bool false)])/\H'= []:=by
 refine Zf [1,19] Tryz.func113 rfl Zam ?_;simp (disch:=omega) only [Tryz.f113,go_sem,seval]
 have hz:List.replicate x.orders.length (PV.int .i64 0)=(Xq (fun _=>0) x.orders.length).map eI:=by
  rw [Xq,JE];rw [show (eI∘fun _:Nat=>(0:Int))=fun _=>PV.int .i64 0 from rfl,List.map_const',List.length_range]
 have hrl: ∀f,(Xq f x.orders.length).length=x.orders.length:=fun f=>CD;refine ZD [2,3] (fun c:Bool=> [(4,.sl (if c=true then 2 else 3) 0 x.orders.length x.orders.length),(5,.sl (if c=true then 3 else 2) 0 x.orders.length x.orders.length),(6,.p (.bool false))]) (fun c=>bF x p c (Xq (fun _=>0) x.orders.length) (Xq (fun _=>0) x.orders.length)) (fun _=>True) ?_ ?_
 ·refine Zc ?_;refine XI [3,7,8] 9 mixed Ze Ze Ze Zb (Zc ?_);refine QT 3 7 _ _ _ _ Ze (by refine Zc ?_;exact ⟨rfl,rfl⟩) (by refine Zc ?_;exact ⟨rfl,rfl⟩) ?_ ?_
  ·refine QT 7 8 _ _ _ _ Ze (by refine Zc ?_;exact ⟨rfl,rfl⟩) (by refine Zc ?_;exact ⟨rfl,rfl⟩) ?_ ?_
   ·refine ZL 8 _ _ Ze (by refine Zc ?_;exact ⟨rfl,rfl⟩) (Yo ?_);refine Zc ?_;exact ⟨true,Weak.mk (by simp (disch:=omega) only [bF,Zh,Zu,hz,go_sem,seval,↓reduceIte])⟩
   ·refine ZL 7 _ _ Ze (by refine Zc ?_;exact ⟨rfl,rfl⟩) (Yo ?_);refine Zc ?_;exact ⟨true,Weak.mk (by simp (disch:=omega) only [bF,Zh,Zu,hz,go_sem,seval,↓reduceIte])⟩
  ·refine ZL 3 _ _ Ze (by refine Zc ?_;exact ⟨rfl,rfl⟩) (ZL 8 _ _ Ze (by refine Zc ?_;exact ⟨rfl,rfl⟩) (Yo ?_));refine Zc ?_;exact ⟨false,Weak.mk (by simp (disch:=omega) only [bF,Zh,Zu,hz,Yi,go_sem,seval,↓reduceIte])⟩
 ·intro c _;have hb: ∀k,k<p.routes.length->ordR (nth p.routes k).visits=(((ordS (nth p.routes k).visits:Nat):Int),0):=fun k hk=>R5 (hv _ (ZF hk)).1 hn
  have hz2:Xq (fun _=>0) x.orders.length=Xq (Z3 (p.routes.take 0)) x.orders.length:=VZ fun i _=>by simp [Z3]
  have hz3:Xq (fun _=>0) x.orders.length=Xq (Xx (p.unserved.take 0)) x.orders.length:=VZ fun i _=>by simp [Xx]
  cases c
  ·refine Zg [19] _ _ _ _ ?_;simp (disch:=omega) only [bF,Zh,Zu,Yi,go_sem,seval];refine ZO [19] [2,3,4,5,23,24] (fun k:Nat=> [(25,.p (.int .i64 k))]) (fun k=> [Zh x,Zu p,.elems 1 ((Xq (fun _=>0) x.orders.length).map eI),.elems 1 ((Xq (Z3 (p.routes.take k)) x.orders.length).map eI)]) (fun k=>k<=p.routes.length) (fun k=>p.routes.length-k) 0 Zb (Weak.mk ?_) ?_
   ·simp (disch:=omega) only [Zh,Zu,hz2,Ya,go_sem,seval]
   ·intro k hk;refine Wz ?_;refine cD ?_ ?_<;>intro h1<;>simp (disch:=omega) only [Sh.out h1,go_sem,seval,↓reduceIte]
    ·have hk2:k<p.routes.length:=Za
     obtain ⟨v1,v2⟩:=hv _ (ZF hk2);have hso:=Vl (nth p.routes k) v2;rw [hb k hk2] at hso;refine Yd hso ?_;have hr0:=hrl (Z3 (p.routes.take k));simp (disch:=first | omega | (simp only [Zw,Zz,ZG,ZK,ZQ,Z4]<;>omega)) only [hr0,eq_self,go_sem,seval,↓reduceIte];refine Zk [2,3,4,5,9,23,24,25,35] (fun i:Nat=> [(36,.p (.int .i64 i))]) (fun i=> [Zh x,Zu p,.elems 1 ((Xq (fun _=>0) x.orders.length).map eI),.elems 1 ((Xq (fun j=>if j<i then Z3 (p.routes.take (k+1)) j else Z3 (p.routes.take k) j) x.orders.length).map eI),ZA (nth p.routes k)]) (fun i=>i<=x.orders.length) (fun i=>x.orders.length-i) 0 Zb (Weak.mk ?_) ?_
     ·simp (disch:=omega) only [Zh,Zu,ZA,go_sem,seval]
      congr 1
     ·intro i hi;have hri:=hrl (fun j=>if j<i then Z3 (p.routes.take (k+1)) j else Z3 (p.routes.take k) j);simp (disch:=omega) only [Zh,Zu,ZA,go_sem,seval];refine ZI ?_ ?_<;>intro h2
      ·have hi2:i<x.orders.length:=Za
       have hsu:=C2 hk2 i;have hrg:=BK (rs:=p.routes) (k:=k) i;have hbt:=Rb v1 i Za
       have hn1:nth (Xq (fun j=>if j<i then Z3 (p.routes.take (k+1)) j else Z3 (p.routes.take k) j) x.orders.length) i=Z3 (p.routes.take k) i:=by simp_all [Uc]
       have he:Ut ((Xq (fun j=>if j<i then Z3 (p.routes.take (k+1)) j else Z3 (p.routes.take k) j) x.orders.length).map eI) i= .int .i64 (Z3 (p.routes.take k) i):=by rw [YC Za,hn1];rfl
       have hset:((Xq (fun j=>if j<i then Z3 (p.routes.take (k+1)) j else Z3 (p.routes.take k) j) x.orders.length).map eI).set i (.int .i64 (Z3 (p.routes.take (k+1)) i))=(Xq (fun j=>if j<i+1 then Z3 (p.routes.take (k+1)) j else Z3 (p.routes.take k) j) x.orders.length).map eI:=by
        have h0:=KO (f:=fun j=>if j<i then Z3 (p.routes.take (k+1)) j else Z3 (p.routes.take k) j) (n:=x.orders.length) (j:=i) (v:=Z3 (p.routes.take (k+1)) i);rw [show PV.int IntKind.i64 (Z3 (p.routes.take (k+1)) i)=eI (Z3 (p.routes.take (k+1)) i) from rfl,<- Vc,h0]
        congr 1
        refine VZ fun j _=> ?_
        grind
       refine ZV 9 mixed Ze Ze ?_;refine Zc ?_;simp (disch:=first | omega | (simp only [Zw,Zz,ZG,ZK,ZQ,Z4]<;>omega)) only [he,hri,hi2,eq_self,VY,go_sem,seval];refine ⟨i+1,Za,Za,Weak.mk ?_⟩;have hbs:=Mg v1 i Za
       have hw:IntKind.i64.wrap (Z3 (p.routes.take k) i+(if hasO (nth p.routes k).visits (i:Int)=true then 1 else 0))=Z3 (p.routes.take (k+1)) i:=by
        rw [hsu]
        split
        ·grind [IntWalk.i64_in]
        ·rw [Vz];grind [IntWalk.i64_in]
       refine Zc ?_
       erw [hbs]
       grind
      ·have hin:i=x.orders.length:=Za
       have hfin:Xq (fun j=>if j<i then Z3 (p.routes.take (k+1)) j else Z3 (p.routes.take k) j) x.orders.length=Xq (Z3 (p.routes.take (k+1))) x.orders.length:=VZ fun j hj=>Za
       exact ⟨k+1,Za,Za,Weak.mk (by simp (disch:=omega) only [hfin,go_sem,seval])⟩
    ·have hkl:k=p.routes.length:=Za
     subst hkl;rw [Xi];refine ZO [19] [2,52,53] (fun k:Nat=> [(4,.sl 3 0 x.orders.length x.orders.length),(5,.sl 2 0 x.orders.length x.orders.length),(54,.p (.int .i64 k))]) (fun k=> [Zh x,Zu p,.elems 1 ((Xq (Xx (p.unserved.take k)) x.orders.length).map eI),.elems 1 ((Xq (Z3 p.routes) x.orders.length).map eI)]) (fun k=>k<=p.unserved.length/\ ∀j,j<k->0<=nth p.unserved j/\nth p.unserved j<(x.orders.length:Int)) (fun k=>p.unserved.length-k) 0 Zb (Weak.mk ?_) ?_
     ·simp (disch:=omega) only [Zh,Zu,hz3,Ya,go_sem,seval]
     ·rintro k ⟨hk,hno⟩;refine Wz ?_
      have hbad:k<p.unserved.length->(decide (0<=nth p.unserved k)&&decide (nth p.unserved k<(x.orders.length:Int)))=false->Um x p.unserved=false:=fun h1 h2=>by
       grind [Um,ZF]
      refine cD ?_ ?_<;>intro h2<;>simp (disch:=omega) only [Sh.out h2,go_sem,seval,↓reduceIte]
      ·have hk2:k<p.unserved.length:=Za
       refine gF ?_ ?_<;>intro h3<;>simp (disch:=omega) only [Sh.out h3,go_sem,seval,↓reduceIte]
       ·rw [hbad hk2 (by simp;omega)];exact we (by simp (disch:=omega) only [go_sem,seval,↓reduceIte])
       ·refine cD ?_ ?_<;>intro h4<;>simp (disch:=omega) only [Sh.out h4,go_sem,seval]
        ·rw [hbad hk2 (by simp;omega)];exact we (by simp (disch:=omega) only [go_sem,seval,↓reduceIte])
        ·have hui:(nth p.unserved k).toNat<x.orders.length:=Za
         have hsu:=C3 hk2;have hg:=BL (us:=p.unserved) (k:=k) (nth p.unserved k).toNat;have hrr:=hrl (Xx (p.unserved.take k))
         have hnx:(Xq (Xx (p.unserved.take k)) x.orders.length).set (nth p.unserved k).toNat (Xx (p.unserved.take k) (nth p.unserved k).toNat+1)=Xq (Xx (p.unserved.take (k+1))) x.orders.length:=by
          rw [KO];refine VZ fun i _=> ?_
          grind
         have he:Ut ((Xq (Xx (p.unserved.take k)) x.orders.length).map eI) (nth p.unserved k).toNat= .int .i64 (Xx (p.unserved.take k) (nth p.unserved k).toNat):=by rw [YC Za,Uc hui];rfl
         have hset:((Xq (Xx (p.unserved.take k)) x.orders.length).map eI).set (nth p.unserved k).toNat (.int .i64 (Xx (p.unserved.take k) (nth p.unserved k).toNat+1))=(Xq (Xx (p.unserved.take (k+1))) x.orders.length).map eI:=by rw [<- hnx,Vc];rfl
         generalize Xx (p.unserved.take k) (nth p.unserved k).toNat=c at *
         simp (disch:=first | omega | (simp only [Zw,Zz,ZG,ZK,ZQ,Z4]<;>omega)) only [he,hrr,hui,eq_self,VY,go_sem,seval];exact ⟨k+1,⟨Za,Zm.2 ⟨hno,Za⟩⟩,Za,Weak.mk (by simp (disch:=omega) only [hset,go_sem,seval])⟩
      ·have hkl:k=p.unserved.length:=Za
       subst hkl
       have X8:Um x p.unserved=true:=by
        rw [Um,Zt];intro u hu;obtain ⟨j,hj,rfl⟩:=ZU.1 hu
        grind [Zi]
       rw [X8,Xi];have r1:=hrl (Z3 p.routes);have r2:=hrl (Xx p.unserved);refine Zq (Weak.fz (o:=2) (by rfl)) ?_;refine Zq (Weak.fz (o:=3) (by rfl)) (Zg [] _ _ _ _ (Vm ?_));rw [if_pos r1,if_pos r2];refine Zc ?_;exact we
  ·refine Zg [19] _ _ _ _ ?_;simp (disch:=omega) only [bF,Zh,Zu,go_sem,seval];refine ZO [19] [2,3,4,5,23,24] (fun k:Nat=> [(25,.p (.int .i64 k))]) (fun k=> [Zh x,Zu p,.elems 1 ((Xq (Z3 (p.routes.take k)) x.orders.length).map eI),.elems 1 ((Xq (fun _=>0) x.orders.length).map eI)]) (fun k=>k<=p.routes.length) (fun k=>p.routes.length-k) 0 Zb (Weak.mk ?_) ?_
   ·simp (disch:=omega) only [Zh,Zu,hz2,Ya,go_sem,seval]
   ·intro k hk;refine Wz ?_;refine cD ?_ ?_<;>intro h1<;>simp (disch:=omega) only [Sh.out h1,go_sem,seval,↓reduceIte]
    ·have hk2:k<p.routes.length:=Za
     obtain ⟨v1,v2⟩:=hv _ (ZF hk2);have hso:=Vl (nth p.routes k) v2;rw [hb k hk2] at hso;refine Yd hso ?_;have hr0:=hrl (Z3 (p.routes.take k));simp (disch:=first | omega | (simp only [Zw,Zz,ZG,ZK,ZQ,Z4]<;>omega)) only [hr0,eq_self,go_sem,seval,↓reduceIte];refine Zk [2,3,4,5,9,23,24,25,35] (fun i:Nat=> [(36,.p (.int .i64 i))]) (fun i=> [Zh x,Zu p,.elems 1 ((Xq (fun j=>if j<i then Z3 (p.routes.take (k+1)) j else Z3 (p.routes.take k) j) x.orders.length).map eI),.elems 1 ((Xq (fun _=>0) x.orders.length).map eI),ZA (nth p.routes k)]) (fun i=>i<=x.orders.length) (fun i=>x.orders.length-i) 0 Zb (Weak.mk ?_) ?_
     ·simp (disch:=omega) only [Zh,Zu,ZA,go_sem,seval]
      congr 1
     ·intro i hi;have hri:=hrl (fun j=>if j<i then Z3 (p.routes.take (k+1)) j else Z3 (p.routes.take k) j);simp (disch:=omega) only [Zh,Zu,ZA,go_sem,seval];refine ZI ?_ ?_<;>intro h2
      ·have hi2:i<x.orders.length:=Za
       have hsu:=C2 hk2 i;have hrg:=BK (rs:=p.routes) (k:=k) i;have hbt:=Rb v1 i Za
       have hn1:nth (Xq (fun j=>if j<i then Z3 (p.routes.take (k+1)) j else Z3 (p.routes.take k) j) x.orders.length) i=Z3 (p.routes.take k) i:=by simp_all [Uc]
       have he:Ut ((Xq (fun j=>if j<i then Z3 (p.routes.take (k+1)) j else Z3 (p.routes.take k) j) x.orders.length).map eI) i= .int .i64 (Z3 (p.routes.take k) i):=by rw [YC Za,hn1];rfl
       have hset:((Xq (fun j=>if j<i then Z3 (p.routes.take (k+1)) j else Z3 (p.routes.take k) j) x.orders.length).map eI).set i (.int .i64 (Z3 (p.routes.take (k+1)) i))=(Xq (fun j=>if j<i+1 then Z3 (p.routes.take (k+1)) j else Z3 (p.routes.take k) j) x.orders.length).map eI:=by
        have h0:=KO (f:=fun j=>if j<i then Z3 (p.routes.take (k+1)) j else Z3 (p.routes.take k) j) (n:=x.orders.length) (j:=i) (v:=Z3 (p.routes.take (k+1)) i);rw [show PV.int IntKind.i64 (Z3 (p.routes.take (k+1)) i)=eI (Z3 (p.routes.take (k+1)) i) from rfl,<- Vc,h0]
        congr 1
        refine VZ fun j _=> ?_
        grind
       refine ZV 9 mixed Ze Ze ?_;refine Zc ?_;simp (disch:=first | omega | (simp only [Zw,Zz,ZG,ZK,ZQ,Z4]<;>omega)) only [he,hri,hi2,eq_self,VY,go_sem,seval];refine ⟨i+1,Za,Za,Weak.mk ?_⟩;have hbs:=Mg v1 i Za
       have hw:IntKind.i64.wrap (Z3 (p.routes.take k) i+(if hasO (nth p.routes k).visits (i:Int)=true then 1 else 0))=Z3 (p.routes.take (k+1)) i:=by
        rw [hsu]
        split
        ·grind [IntWalk.i64_in]
        ·rw [Vz];grind [IntWalk.i64_in]
       refine Zc ?_
       erw [hbs]
       grind
      ·have hin:i=x.orders.length:=Za
       have hfin:Xq (fun j=>if j<i then Z3 (p.routes.take (k+1)) j else Z3 (p.routes.take k) j) x.orders.length=Xq (Z3 (p.routes.take (k+1))) x.orders.length:=VZ fun j hj=>Za
       exact ⟨k+1,Za,Za,Weak.mk (by simp (disch:=omega) only [hfin,go_sem,seval])⟩
    ·have hkl:k=p.routes.length:=Za
     subst hkl;rw [Xi];refine ZO [19] [2,52,53] (fun k:Nat=> [(4,.sl 2 0 x.orders.length x.orders.length),(5,.sl 3 0 x.orders.length x.orders.length),(54,.p (.int .i64 k))]) (fun k=> [Zh x,Zu p,.elems 1 ((Xq (Z3 p.routes) x.orders.length).map eI),.elems 1 ((Xq (Xx (p.unserved.take k)) x.orders.length).map eI)]) (fun k=>k<=p.unserved.length/\ ∀j,j<k->0<=nth p.unserved j/\nth p.unserved j<(x.orders.length:Int)) (fun k=>p.unserved.length-k) 0 Zb (Weak.mk ?_) ?_
     ·simp (disch:=omega) only [Zh,Zu,hz3,Ya,go_sem,seval]
     ·rintro k ⟨hk,hno⟩;refine Wz ?_
      have hbad:k<p.unserved.length->(decide (0<=nth p.unserved k)&&decide (nth p.unserved k<(x.orders.length:Int)))=false->Um x p.unserved=false:=fun h1 h2=>by
       grind [Um,ZF]
      refine cD ?_ ?_<;>intro h2<;>simp (disch:=omega) only [Sh.out h2,go_sem,seval,↓reduceIte]
      ·have hk2:k<p.unserved.length:=Za
       refine gF ?_ ?_<;>intro h3<;>simp (disch:=omega) only [Sh.out h3,go_sem,seval,↓reduceIte]
       ·rw [hbad hk2 (by simp;omega)];exact we (by simp (disch:=omega) only [go_sem,seval,↓reduceIte])
       ·refine cD ?_ ?_<;>intro h4<;>simp (disch:=omega) only [Sh.out h4,go_sem,seval]
        ·rw [hbad hk2 (by simp;omega)];exact we (by simp (disch:=omega) only [go_sem,seval,↓reduceIte])
        ·have hui:(nth p.unserved k).toNat<x.orders.length:=Za
         have hsu:=C3 hk2;have hg:=BL (us:=p.unserved) (k:=k) (nth p.unserved k).toNat;have hrr:=hrl (Xx (p.unserved.take k))
         have hnx:(Xq (Xx (p.unserved.take k)) x.orders.length).set (nth p.unserved k).toNat (Xx (p.unserved.take k) (nth p.unserved k).toNat+1)=Xq (Xx (p.unserved.take (k+1))) x.orders.length:=by
          rw [KO];refine VZ fun i _=> ?_
          grind
         have he:Ut ((Xq (Xx (p.unserved.take k)) x.orders.length).map eI) (nth p.unserved k).toNat= .int .i64 (Xx (p.unserved.take k) (nth p.unserved k).toNat):=by rw [YC Za,Uc hui];rfl
         have hset:((Xq (Xx (p.unserved.take k)) x.orders.length).map eI).set (nth p.unserved k).toNat (.int .i64 (Xx (p.unserved.take k) (nth p.unserved k).toNat+1))=(Xq (Xx (p.unserved.take (k+1))) x.orders.length).map eI:=by rw [<- hnx,Vc];rfl
         generalize Xx (p.unserved.take k) (nth p.unserved k).toNat=c at *
         simp (disch:=first | omega | (simp only [Zw,Zz,ZG,ZK,ZQ,Z4]<;>omega)) only [he,hrr,hui,eq_self,VY,go_sem,seval];exact ⟨k+1,⟨Za,Zm.2 ⟨hno,Za⟩⟩,Za,Weak.mk (by simp (disch:=omega) only [hset,go_sem,seval])⟩
      ·have hkl:k=p.unserved.length:=Za
       subst hkl
       have X8:Um x p.unserved=true:=by
        rw [Um,Zt];intro u hu;obtain ⟨j,hj,rfl⟩:=ZU.1 hu
        grind [Zi]
       rw [X8,Xi];have r1:=hrl (Z3 p.routes);have r2:=hrl (Xx p.unserved);refine Zq (Weak.fz (o:=2) (by rfl)) ?_;refine Zq (Weak.fz (o:=3) (by rfl)) (Zg [] _ _ _ _ (Vm ?_));rw [if_pos r1,if_pos r2];refine Zc ?_;exact we
def errR (x:Inst):List Rte->Int
 | []=>0
 | r::l=>if evalE x r=0 then errR x l else evalE x r
theorem D5 {x:Inst} : ∀ {l:List Rte} {k:Nat},k<l.length->(∀j,j<k->evalE x (nth l j)=0)-> ¬evalE x (nth l k)=0->errR x l=evalE x (nth l k)
 | r::l,0,_,_,h=>by rw [errR,if_neg (show ¬evalE x r=0 from h)];rfl
 | r::l,k+1,hk,h0,h=>by
  rw [errR,if_pos (show evalE x r=0 from h0 0 Za)];exact D5 (l:=l) (k:=k) (by grind) (fun j hj=>h0 (j+1) Za) h
theorem D6 {x:Inst} : ∀ {l:List Rte},(∀j,j<l.length->evalE x (nth l j)=0)->errR x l=0
 | [],_=>rfl
 | r::l,h=>by
  rw [errR,if_pos (show evalE x r=0 from h 0 Zb)];exact D6 fun j hj=>h (j+1) (by grind)
def Vt (x:Inst) (p:Pln) (R U:List Int):List AM.Obj:= [Zh x,Zu p,.cells [.p (.list false (R.map eI))],.cells [.p (.list false (U.map eI))]]
theorem F8 {P Q:Prop} (h:Q) (e:Q->P:=by intro h;simp (disch:=omega) only [Vt,Zh,Zu,go_sem,seval];exact h):P:=e h
theorem PE (x:Inst) (p:Pln) (R U:List Int) (ho:x.orders.length<=1048576) (g:FuncId) (caps:List V) (f:Nat->Bool) (hc:Z9 4 caps=true)
  (hg: ∀i,i<x.orders.length->ACalls Tryz.prog g (.p (.int .i64 (i:Nat)):: .p (eOrd (nth x.orders i))::caps) (Vt x p R U) fun y H'=>y= .p (.bool (f i))/\H'=Vt x p R U) :
  ACalls Tryz.prog 114 [.fn (.func g) [] caps,.ptr 0 0] (Vt x p R U) fun y H'=>y= .p (.bool ((List.range x.orders.length).any f))/\H'=Vt x p R U:=by
 refine Zf [] Tryz.func114 rfl Zan ?_;simp (disch:=omega) only [Tryz.f114,Vt,Zh,Zu,go_sem,seval];refine Zk [0,7,8] (fun k:Nat=> [(9,.p (.int .i64 k))]) (fun _=>Vt x p R U) (fun k=>k<=x.orders.length/\ ∀j,j<k->f j=false) (fun k=>x.orders.length-k) 0 Zb (Weak.mk ?_) ?_
 ·simp (disch:=omega) only [Vt,Zh,Zu,hc,go_sem,seval,↓reduceIte]
 ·rintro k ⟨hk,hno⟩;refine F8 ?_;refine cD ?_ ?_<;>intro h1<;>simp (disch:=omega) only [Sh.out h1,go_sem,seval,↓reduceIte]
  ·have hk2:k<x.orders.length:=Za
   have hgk:=hg k hk2;refine hgk.useP (L:= [_]) (by rfl) ?_ (show Z9 4 (_::_::caps)=true by simp (disch:=omega) only [hc,go_sem,seval]) (by rfl);refine F8 ?_
   cases hf:f k with
   | true=> 
    have:(List.range x.orders.length).any f=true:=YR.2 ⟨k,ZP.2 hk2,hf⟩;rw [this];refine Zc ?_;exact we
   | false =>
    refine Zc ?_;exact ⟨k+1,⟨Za,Zm.2 ⟨hno,hf⟩⟩,Za,Weak.mk (by simp (disch:=omega) only [hc,go_sem,seval])⟩
  ·have:(List.range x.orders.length).any f=false:=by
    grind
   rw [this];exact we
theorem yZ (x:Inst) (p:Pln) (R U:List Int) (o:Ord) (i:Nat) (hi:i<R.length) (hi2:i<U.length) (hl:R.length<=1048576/\U.length<=1048576) (hr:0<=nth R i/\nth R i<=1048576) (hu:0<=nth U i/\nth U i<=1048576) :
  ACalls Tryz.prog 115 [.p (.int .i64 (i:Nat)),.p (eOrd o),.ptr 2 0,.ptr 3 0] (Vt x p R U) fun y H'=>y= .p (.bool (decide (1<nth R i+nth U i)))/\H'=Vt x p R U:=by
 refine Zf [] Tryz.func115 rfl Zao ?_;simp (disch:=omega) only [Tryz.f115,Vt,Zh,Zu,go_sem,seval];refine Xr (Zc ?_);exact we
theorem zA (x:Inst) (p:Pln) (R U:List Int) (o:Ord) (i:Nat) (hi2:i<U.length) (hl:U.length<=1048576) :
  ACalls Tryz.prog 117 [.p (.int .i64 (i:Nat)),.p (eOrd o),.ptr 3 0] (Vt x p R U) fun y H'=>y= .p (.bool (o.off&&decide (0<nth U i)))/\H'=Vt x p R U:=by
 refine Zf [] Tryz.func117 rfl Zaq ?_;simp (disch:=omega) only [Tryz.f117,Vt,Zh,Zu,go_sem,seval];refine gT ?_ ?_<;>intro h<;>simp (disch:=omega) only [Sh.out h,go_sem,seval,↓reduceIte]
 ·exact ⟨.p (.bool (decide (0<nth U i))),Vt x p R U,Weak.mk (by simp (disch:=omega) only [Vt,Zh,Zu,go_sem,seval]),by simp [],rfl⟩
 ·exact ⟨.p (.bool false),Vt x p R U,Weak.mk (by simp (disch:=omega) only [Vt,Zh,Zu,go_sem,seval]),by simp [],rfl⟩
theorem zB (x:Inst) (p:Pln) (R U:List Int) (o:Ord) (i:Nat) (hi:i<R.length) (hi2:i<U.length) (hl:R.length<=1048576/\U.length<=1048576) (hr:0<=nth R i/\nth R i<=1048576) (hu:0<=nth U i/\nth U i<=1048576) :
  ACalls Tryz.prog 118 [.p (.int .i64 (i:Nat)),.p (eOrd o),.ptr 2 0,.ptr 3 0] (Vt x p R U) fun y H'=>y= .p (.bool (!o.off&&(decide (nth R i+nth U i=0)||(decide (0<nth U i)&&decide (o.penalty= -1)))))/\H'=Vt x p R U:=by
 refine Zf [] Tryz.func118 rfl Zar ?_;simp (disch:=omega) only [Tryz.f118,Vt,Zh,Zu,go_sem,seval];refine Xr (Zc ?_);refine gT ?_ ?_<;>intro h1<;>simp (disch:=omega) only [Sh.out h1,go_sem,seval,↓reduceIte]
 ·refine gF ?_ ?_<;>intro h2<;>simp (disch:=omega) only [Sh.out h2,go_sem,seval,↓reduceIte]
  ·exact ⟨.p (.bool true),Vt x p R U,Weak.mk (by simp (disch:=omega) only [Vt,Zh,Zu,go_sem,seval]),by grind,rfl⟩
  ·refine gT ?_ ?_<;>intro h3<;>simp (disch:=omega) only [Sh.out h3,go_sem,seval,↓reduceIte]
   ·exact ⟨.p (.bool (decide (o.penalty= -1))),Vt x p R U,Weak.mk (by simp (disch:=omega) only [Vt,Zh,Zu,go_sem,seval]),by grind,rfl⟩
   ·exact ⟨.p (.bool false),Vt x p R U,Weak.mk (by simp (disch:=omega) only [Vt,Zh,Zu,go_sem,seval]),by grind,rfl⟩
 ·exact ⟨.p (.bool false),Vt x p R U,Weak.mk (by simp (disch:=omega) only [Vt,Zh,Zu,go_sem,seval]),by rfl,rfl⟩
def GE (p:Pln) (i:Nat):Int:=Z3 p.routes i+Xx p.unserved i
def QG (x:Inst) (p:Pln):Bool:=(List.range x.orders.length).any fun i=>decide (1<GE p i)
def UL (x:Inst) (p:Pln):Bool:=(List.range x.types.length).any fun t=>decide ((nth x.types t).count<Wo p.routes t)
def UY (x:Inst) (p:Pln):Bool:=(List.range x.orders.length).any fun i=>(nth x.orders i).off&&decide (0<Xx p.unserved i)
def KA (x:Inst) (p:Pln):Bool:=(List.range x.orders.length).any fun i=> !(nth x.orders i).off&&(decide (GE p i=0)||(decide (0<Xx p.unserved i)&&decide ((nth x.orders i).penalty= -1)))
def chkP (x:Inst) (p:Pln):Int :=
 if ¬errR x p.routes=0 then errR x p.routes
 else if Um x p.unserved=false then 2
 else if QG x p=true then 6
 else if UL x p=true then 22
 else if UY x p=true then 9
 else if KA x p=true then 23
 else 0
theorem EN {n:Nat} {f g:Nat->Bool} (h: ∀i,i<n->f i=g i):(List.range n).any f=(List.range n).any g:=by
 grind
theorem Ml {rs:List Rte} (i:Nat):0<=Z3 rs i/\Z3 rs i<=rs.length:=by
 have:=BK (rs:=rs) (k:=rs.length) i
 grind
theorem Mn {us:List Int} (i:Nat):0<=Xx us i/\Xx us i<=us.length:=by
 have:=BL (us:=us) (k:=us.length) i
 grind
theorem KF {x:Inst} (hx:InstOk x):x.orders.length<=10:=by have:=hx.orders.1;omega
theorem N0 {x:Inst} (hx:InstOk x):x.types.length<=6:=by have:=hx.types.1;simp only [rng,Zp] at this;omega
theorem Zdj (x:Inst) (p:Pln) (hx:InstOk x) (hr:p.routes.length<=1048576) (hu:p.unserved.length<=1048576) (hb: ∀r∈p.routes,WH r) :
  PC 67 [.p (ZE x),.p (Wh p)] (.int .i64 (chkP x p)):=by
 have hn:=KF hx;have ht:=N0 hx;have c2:=fun (hv: ∀r∈p.routes,Inr x r.visits/\r.visits.length<=1048576)=>Mr x p hn hr hu hv;refine Zf [] Tryz.func67 rfl ZiR ?_;simp (disch:=omega) only [Tryz.f67,go_sem,seval];refine Zk [2,3,13,14] (fun k:Nat=> [(15,.p (.int .i64 k))]) (fun _=> [Zh x,Zu p]) (fun k=>k<=p.routes.length/\ ∀j,j<k->evalE x (nth p.routes j)=0) (fun k=>p.routes.length-k) 0 Zb (Weak.mk ?_) ?_
 ·simp (disch:=omega) only [Zh,Zu,go_sem,seval]
 ·rintro k ⟨hk,h0⟩;refine Wz ?_;refine cD ?_ ?_<;>intro h1<;>simp (disch:=omega) only [Sh.out h1,go_sem,seval,↓reduceIte]
  ·have hk2:k<p.routes.length:=Za
   obtain ⟨b1,b2⟩:=hb _ (ZF hk2);refine (kN x (nth p.routes k) hx b1 b2).use (Zc ?_);refine ZI ?_ ?_<;>intro h2
   ·have he:chkP x p=evalE x (nth p.routes k):=by
     have e:=D5 hk2 h0 h2
     simp_all [chkP]
    rw [he];exact we
   ·exact ⟨k+1,⟨Za,Zm.2 ⟨h0,Za⟩⟩,Za,wk⟩
  ·have hkl:k=p.routes.length:=Za
   subst hkl;have her:=D6 h0
   have X8: ∀r∈p.routes,evalE x r=0:=fun r hr=>by
    obtain ⟨j,hj,rfl⟩:=ZU.1 hr
    grind [Zi]
   have hv: ∀r∈p.routes,Inr x r.visits/\r.visits.length<=1048576:=fun r hr=>⟨(W4 (X3 (X7 (X8 r hr))).2.1).inr,(hb r hr).1⟩;have hty: ∀r∈p.routes,0<=r.typ/\r.typ<(x.types.length:Int):=fun r hr=>(X3 (X7 (X8 r hr))).1;have c2:=Mr x p hn hr hu hv;have cw:=Hc x p Za hr hty;have c0: ¬ ¬errR x p.routes=0:=fun e=>e her
   have hR: ∀i,0<=Z3 p.routes i/\Z3 p.routes i<=1048576:=fun i=>by have:=Ml (rs:=p.routes) i;omega
   have hU: ∀i,0<=Xx p.unserved i/\Xx p.unserved i<=1048576:=fun i=>by have:=Mn (us:=p.unserved) i;omega
   have rl:(Xq (Z3 p.routes) x.orders.length).length=x.orders.length:=CD;have ul:(Xq (Xx p.unserved) x.orders.length).length=x.orders.length:=CD;have rn: ∀i,i<x.orders.length->nth (Xq (Z3 p.routes) x.orders.length) i=Z3 p.routes i:=fun i hi=>Uc hi;have un: ∀i,i<x.orders.length->nth (Xq (Xx p.unserved) x.orders.length) i=Xx p.unserved i:=fun i hi=>Uc hi
   by_cases hub:Um x p.unserved=true
   ·rw [if_pos hub] at c2;refine mM c2 ?_
    generalize Xq (Z3 p.routes) x.orders.length=R at *
    generalize Xq (Xx p.unserved) x.orders.length=U at *
    have c1: ¬Um x p.unserved=false:=by grind
    refine Zc ?_;have k2:=PE x p R U Za 115 [.ptr 2 0,.ptr 3 0] (fun i=>decide (1<nth R i+nth U i)) (by rfl) fun i hi=>yZ x p R U _ i Za Za ⟨Za,Za⟩ (by grind) (by grind);rw [show (List.range x.orders.length).any (fun i=>decide (1<nth R i+nth U i))=QG x p from EN fun i hi=>by rw [rn i hi,un i hi];rfl] at k2;refine k2.mono ?_;rintro y H' ⟨rfl,rfl⟩;refine F8 ?_
    by_cases g1:QG x p=true
    ·have hv:chkP x p=6:=by simp_all [chkP]
     rw [hv];simp (disch:=omega) only [g1,go_sem,seval];exact we
    ·have g1':QG x p=false:=by grind
     simp (disch:=omega) only [g1',go_sem,seval];refine (Hc x p Za hr hty).use (Zc ?_)
     by_cases g2:UL x p=true
     ·have hv:chkP x p=22:=by simp_all [chkP]
      rw [hv];unfold UL at g2;simp (disch:=omega) only [g2,go_sem,seval];exact we
     ·have g2':UL x p=false:=by grind
      unfold UL at g2';simp (disch:=omega) only [g2',go_sem,seval];have k3:=PE x p R U Za 117 [.ptr 3 0] (fun i=>(nth x.orders i).off&&decide (0<nth U i)) (by rfl) fun i hi=>zA x p R U _ i Za Za;rw [show (List.range x.orders.length).any (fun i=>(nth x.orders i).off&&decide (0<nth U i))=UY x p from EN fun i hi=>by rw [un i hi]] at k3;refine k3.mono ?_;rintro y H' ⟨rfl,rfl⟩;refine F8 ?_
      by_cases g3:UY x p=true
      ·have hv:chkP x p=9:=by simp_all [chkP]
       rw [hv];simp (disch:=omega) only [g3,go_sem,seval];exact we
      ·have g3':UY x p=false:=by grind
       simp (disch:=omega) only [g3',go_sem,seval];have k4:=PE x p R U Za 118 [.ptr 2 0,.ptr 3 0] (fun i=> !(nth x.orders i).off&&(decide (nth R i+nth U i=0)||(decide (0<nth U i)&&decide ((nth x.orders i).penalty= -1)))) (by rfl) fun i hi=>zB x p R U _ i Za Za ⟨Za,Za⟩ (by grind) (by grind);rw [show (List.range x.orders.length).any (fun i=> !(nth x.orders i).off&&(decide (nth R i+nth U i=0)||(decide (0<nth U i)&&decide ((nth x.orders i).penalty= -1))))=KA x p from EN fun i hi=>by rw [rn i hi,un i hi];rfl] at k4;refine k4.mono ?_
       rintro y H' ⟨rfl,rfl⟩;refine F8 ?_
       by_cases g4:KA x p=true
       ·have hv:chkP x p=23:=by simp_all [chkP]
        rw [hv];simp (disch:=omega) only [g4,go_sem,seval];exact we
       ·have hv:chkP x p=0:=by simp_all [chkP]
        rw [hv]
        have g4':KA x p=false:=by grind
        simp (disch:=omega) only [g4',go_sem,seval];exact we
   ·rw [if_neg hub] at c2;refine mM c2 ?_
    have c1:Um x p.unserved=false:=by grind
    have hv:chkP x p=2:=by simp_all [chkP]
    rw [hv];refine Zc ?_;exact we
theorem sA {p:Pln} (hp:p.wf 1048576): ∀r∈p.routes,WH r:=fun r hr=>by
 obtain ⟨_,_,w1,_,w2,_⟩:=hp.2.1 r hr;exact ⟨w2,w1⟩
theorem MA {x:Inst} {l:List Rte} :errR x l=0↔ ∀r∈l,evalE x r=0:=by
 induction l with
 | nil=>simp [errR]
 | cons r l ih =>
  rw [errR]
  grind
def WA (x:Inst) (l:List Rte):Sco:=l.foldl (fun s r=>Yp s (XG x r)) zSco
def Ke (x:Inst) (s:Sco) (l:List Int):Sco:=l.foldl (fun s i=>Yp s (XQ x i).1) s
theorem HV {x:Inst} {l:List Rte} {k:Nat} (h:k<l.length):WA x (l.take (k+1))=Yp (WA x (l.take k)) (XG x (nth l k)):=by
 grind [WA,Xl,Zi]
theorem HW {x:Inst} {s:Sco} {l:List Int} {k:Nat} (h:k<l.length):Ke x s (l.take (k+1))=Yp (Ke x s (l.take k)) (XQ x (nth l k)).1:=by
 grind [Ke,Xl,Zi]
theorem Ga {x:Inst} {l:List Rte} (hx:InstOk x) (hb: ∀r∈l,WH r) (h: ∀r∈l,evalE x r=0): ∀k:Nat,k<=l.length->Uk (1073741824*k) (WA x (l.take k))
 | 0,_=>by simp [WA,Uk,zSco]
 | k+1,hk=>by
  rw [HV Za];have hm:=ZF (l:=l) (show k<l.length by omega);exact YT Za (F0 (Ga hx hb h k Za) (C4 hx (hb _ hm).1 (h _ hm)))
theorem Gb {x:Inst} {s:Sco} {l:List Int} {B:Int} (hx:InstOk x) (hs:Uk B s): ∀k:Nat,k<=l.length->Uk (B+1073741824*k) (Ke x s (l.take k))
 | 0,_=>by grind [Ke]
 | k+1,hk=>by
  rw [HW Za];exact YT Za (F0 (Gb hx hs k Za) (Gg hx _))
def Uy (x:Inst) (p:Pln):Sco:=if chkP x p=0 then Ke x (WA x p.routes) p.unserved else zSco
theorem VN {x:Inst} {p:Pln} (h:chkP x p=0):(∀r∈p.routes,evalE x r=0)/\ ∀i∈p.unserved,(XQ x i).2=0:=by
 unfold chkP at h
 split at h
 ·omega
 ·rename_i c0;have her:errR x p.routes=0:=Xs.1 c0
  split at h
  ·simp at h
  ·rename_i c1
   split at h
   ·simp at h
   ·split at h
    ·simp at h
    ·split at h
     ·simp at h
     ·rename_i c4
      split at h
      ·simp at h
      ·rename_i c5;refine ⟨MA.1 her,fun u hu=> ?_⟩
       have hub:Um x p.unserved=true:=by grind
       rw [Um,Zt] at hub;have h1:=hub u hu;simp only [Zy,Zp] at h1
       have hui:u.toNat<x.orders.length:=Za
       have hcu:0<Xx p.unserved u.toNat:=by
        unfold Xx;have:0<p.unserved.countP fun v=>decide (v=(u.toNat:Int)):=Va.2 ⟨u,hu,by grind⟩;omega
       have h4:UY x p=false:=by grind
       have h5:KA x p=false:=by grind
       have h4:=XY.1 h4 _ (ZP.2 hui);have h5:=XY.1 h5 _ (ZP.2 hui)
       simp_all [XQ,if_neg]
theorem lV {x:Inst} {p:Pln} (hx:InstOk x) (hr:p.routes.length<=1048576) (hu:p.unserved.length<=1048576) (hb: ∀r∈p.routes,WH r):Uk 1152921504606846976 (Uy x p):=by
 unfold Uy
 split
 ·rename_i h;obtain ⟨z1,z2⟩:=VN h;have r1:=Ga (l:=p.routes) hx hb z1 _ (Zv _);have r2:=Gb (l:=p.unserved) hx r1 _ (Zv _);rw [Xi,Xi] at r2;exact YT Za r2
 ·simp [Uk,zSco]
def Nt (x:Inst) (p:Pln):Int×Int:=if chkP x p=0 then Xn (Uy x p) else (0,chkP x p)
theorem eJ {x:Inst} {p:Pln} (h:chkP x p=0):errR x p.routes=0/\Um x p.unserved=true/\QG x p=false/\UL x p=false/\UY x p=false/\KA x p=false:=by
 unfold chkP at h
 by_cases c0:errR x p.routes=0
 ·grind
 omega
theorem QL {x:Inst} {p:Pln} (h:chkP x p=0) :
  (∀u∈p.unserved,0<=u/\u<(x.orders.length:Int)) /\
  (∀i:Nat,i<x.orders.length->p.routes.countP (fun r=>hasO r.visits (i:Int))+p.unserved.countP (fun u=>decide (u=(i:Int)))<=1) /\
  (∀i:Nat,i<x.orders.length->(i:Int)∈p.unserved->(nth x.orders i).off=false/\(nth x.orders i).penalty≠ -1) /\
  (∀i:Nat,i<x.orders.length->(nth x.orders i).off=false->1<=p.routes.countP (fun r=>hasO r.visits (i:Int))+p.unserved.countP (fun u=>decide (u=(i:Int)))) /\
  (∀t:Nat,t<x.types.length->((p.routes.countP fun r=>decide (r.typ=(t:Int)):Nat):Int)<=(nth x.types t).count):=by
 obtain ⟨_,h1,h2,h3,h4,h5⟩:=eJ h
 have hcu: ∀i:Nat,(i:Int)∈p.unserved->0<Xx p.unserved i:=fun i hi=>by
  grind [Xx,Va]
 have g2:=XY.1 h2;have g3:=XY.1 h3;have g4:=XY.1 h4;have g5:=XY.1 h5;refine ⟨fun u hu=> ?_,fun i hi=> ?_,fun i hi hu=> ?_,fun i hi ho=> ?_,fun t ht=> ?_⟩
 ·grind [Um]
 ·exact Nat.le_of_not_lt fun hlt=>g2 i (ZP.2 hi) (Yk (by grind [GE,Z3,Xx]))
 ·grind
 ·grind [GE,Z3,Xx]
 grind [Wo]
set_option maxRecDepth 60000
def Ub {α:Type} [DecidableEq α] (l f:List α):Bool:=decide (f.length<=l.length)&&decide (l.take f.length=f)
def XR (r b:Rte):Bool:=decide (r.typ=b.typ)&&(decide (r.start=b.start)&&(Ub r.visits b.visits&&(Ub r.rests b.rests&&(decide (b.rests.length<=b.visits.length)||(decide (r.visits.length=b.visits.length)&&decide (r.rests.length=b.rests.length))))))
def Wv (r b:Rte):Bool:=r.visits.any fun v=>b.visits.any fun w=>decide (v.order=w.order)
def Ob (rs:List Rte) (b:Rte):Bool:=decide (rs.countP (fun r=>XR r b)=1)&&rs.all fun r=>XR r b|| !Wv r b
def Uh (rs l:List Rte):Int:=if l.all (Ob rs)=true then 0 else 31
theorem FJ {α:Type} [DecidableEq α] [Inhabited α] {l f:List α} :Ub l f=true↔f.length<=l.length/\ ∀j,j<f.length->nth l j=nth f j:=by
 rw [Ub,Zy,Zp,Zp];refine Aq fun h=> ?_
 constructor
 ·grind [Zi]
 ·intro e;refine Dd (by simp;omega) fun j hj=> ?_
  grind [Zi]
theorem Sa {α:Type} [DecidableEq α] [Inhabited α] {l f:List α} {j:Nat} (hj:j<f.length) (h:nth l j≠nth f j):Ub l f=false:=by
 grind [FJ]
theorem Mo {f:Rte->Bool} {l:List Rte} {k:Nat} (hk:k<l.length):(l.take (k+1)).countP f=(l.take k).countP f+(if f (nth l k)=true then 1 else 0):=by
 grind [Xl,Zi]
theorem Ai {rs l:List Rte} {k:Nat} (hk:k<l.length) (h:Ob rs (nth l k)=false):Uh rs l=31:=by
 rw [Uh,if_neg]
 grind [Zo]
theorem Fk {rs l:List Rte} (h: ∀j,j<l.length->Ob rs (nth l j)=true):Uh rs l=0:=by
 rw [Uh,if_pos];rw [Zt];intro b hb;obtain ⟨j,hj,rfl⟩:=ZU.1 hb
 grind [Zi]
theorem Zjf {rs:List Rte} {b:Rte} {j:Nat} (hj:j<rs.length) (h1:XR (nth rs j) b=false) (h2:Wv (nth rs j) b=true):Ob rs b=false:=by
 grind [Ob,Zo]
theorem ZcZ {rs:List Rte} {b:Rte} (h: ∀j,j<rs.length->XR (nth rs j) b=true\/Wv (nth rs j) b=false):Ob rs b=decide (rs.countP (fun r=>XR r b)=1):=by
 rw [Ob,(Zt (l:=rs)).2,US];intro r hr;obtain ⟨j,hj,rfl⟩:=ZU.1 hr
 grind [Zi]
theorem bA (l f:List Vis) (c d:Bool) (ha:l.length<=1048576) (hb:f.length<=1048576):PC 165 [.p (.list c (l.map Z1)),.p (.list d (f.map Z1))] (.bool (Ub l f)):=by
 refine Zd Tryz.func165 rfl Za2 ?_;simp (disch:=omega) only [Tryz.f165,go_sem,seval];refine gT ?_ ?_<;>intro h1<;>simp (disch:=omega) only [Sh.out h1,go_sem,seval,↓reduceIte]
 ·have e:Ub l f=decide (l.take f.length=f):=by simp_all [Ub]
  rw [e];refine (fK (l.take f.length) f _ d (by simp;omega) hb).use ?_;simp (disch:=omega) only [go_sem,seval,↓reduceIte]
 simp_all [Ub,XK]
theorem aZ (l f:List Bool) (c d:Bool) (ha:l.length<=1048576) (hb:f.length<=1048576):PC 166 [.p (.list c (l.map eB)),.p (.list d (f.map eB))] (.bool (Ub l f)):=by
 refine Zd Tryz.func166 rfl Za3 ?_;simp (disch:=omega) only [Tryz.f166,go_sem,seval];refine gT ?_ ?_<;>intro h1<;>simp (disch:=omega) only [Sh.out h1,go_sem,seval,↓reduceIte]
 ·have e:Ub l f=decide (l.take f.length=f):=by simp_all [Ub]
  rw [e];refine (fJ (l.take f.length) f _ d (by simp;omega) hb).use ?_;simp (disch:=omega) only [go_sem,seval,↓reduceIte]
 simp_all [Ub,XK]
theorem P8 {r b:Rte} (h: ¬r.typ=b.typ):XR r b=false:=by simp_all [XR]
theorem G1 {r b:Rte} (h: ¬r.start=b.start):XR r b=false:=by simp_all [XR]
theorem Iz {r b:Rte} (h:Ub r.visits b.visits=false):XR r b=false:=by simp_all [XR]
theorem Iy {r b:Rte} (h:Ub r.rests b.rests=false):XR r b=false:=by simp_all [XR]
theorem P7 {r b:Rte} (h1:r.typ=b.typ) (h2:r.start=b.start) (h3:Ub r.visits b.visits=true) (h4:Ub r.rests b.rests=true):XR r b=decide (b.rests.length<=b.visits.length\/r.visits.length=b.visits.length/\r.rests.length=b.rests.length):=by
 rw [XR,Yk h1,Yk h2,h3,h4,Yj];simp
theorem J7 {P Q:Prop} (h:Q) (e:Q->P:=by intro h;simp (disch:=omega) only [VX,go_sem,seval];exact h):P:=e h
theorem KT {P Q:Prop} (h:Q) (e:Q->P:=by intro h;simp (disch:=omega) only [VV,go_sem,seval];exact h):P:=e h
theorem dO (r b:Rte) (hr:WH r) (hb:WH b):PC 119 [.p (Z0 r),.p (Z0 b)] (.bool (XR r b)):=by
 obtain ⟨a1,a2⟩:=hr;obtain ⟨b1,b2⟩:=hb;refine Zd Tryz.func119 rfl Zas ?_;simp (disch:=omega) only [Tryz.f119,go_sem,seval];refine gF ?_ ?_<;>intro h1<;>simp (disch:=omega) only [Sh.out h1,go_sem,seval,↓reduceIte]
 ·rw [P8 h1]
 ·refine gF ?_ ?_<;>intro h2<;>simp (disch:=omega) only [Sh.out h2,go_sem,seval,↓reduceIte]
  ·rw [G1 h2]
  ·refine (bA r.visits b.visits r.visits_c b.visits_c a1 b1).use (Zc ?_)
   cases hv:Ub r.visits b.visits with
   | false =>
    refine KT ?_;rw [Iz hv]
   | true =>
    refine J7 ?_;refine (aZ r.rests b.rests r.rests_c b.rests_c a2 b2).use (Zc ?_)
    cases hw:Ub r.rests b.rests with
    | false =>
     refine KT ?_;rw [Iy hw]
    | true =>
     refine J7 ?_;have e:=P7 (Xs.1 h1) (Xs.1 h2) hv hw;refine gF ?_ ?_<;>intro h3<;>simp (disch:=omega) only [Sh.out h3,go_sem,seval,↓reduceIte]
     ·grind
     ·refine gT ?_ ?_<;>intro h4<;>simp (disch:=omega) only [Sh.out h4,go_sem,seval,↓reduceIte]
      ·rw [e];refine Z5 (fun q=>V.p (PV.bool q)) ?_
       grind
      grind
def N2 (v:Vis):AM.Obj:= .cells [.p (.int .i64 v.order),.p (.bool v.drp)]
theorem qW (a b:Rte) (v w:Vis):ACalls Tryz.prog 169 [.p (Z1 w),.ptr 2 0] [ZA a,ZA b,N2 v] fun x H'=>x= .p (.bool (decide (v.order=w.order)))/\H'= [ZA a,ZA b,N2 v]:=by
 refine Zf [] Tryz.func169 rfl Za6 ?_;simp (disch:=omega) only [Tryz.f169,N2,ZA,go_sem,seval];exact we
theorem qV (a b:Rte) (v:Vis) (hb:b.visits.length<=1048576):ACalls Tryz.prog 168 [.p (Z1 v),.ptr 1 0] [ZA a,ZA b] fun x H'=>x= .p (.bool (b.visits.any fun w=>decide (v.order=w.order)))/\H'= [ZA a,ZA b]:=by
 refine Zf [] Tryz.func168 rfl Za5 ?_;simp (disch:=omega) only [Tryz.f168,ZA,go_sem,seval];refine (Wp b.visits b.visits_c 169 [.ptr 2 0] [ZA a,ZA b,N2 v] (fun w=>decide (v.order=w.order)) hb (by simp (disch:=omega) only [ZA,N2,go_sem,seval]) (by rfl) (fun w _=>qW a b v w)).useH (Zc ?_);exact we (by simp (disch:=omega) only [ZA,go_sem,seval])
theorem Zc5 (a b:Rte) (ha:a.visits.length<=1048576) (hb:b.visits.length<=1048576):PC 120 [.p (Z0 a),.p (Z0 b)] (.bool (Wv a b)):=by
 refine Zd Tryz.func120 rfl Zat ?_;simp (disch:=omega) only [Tryz.f120,go_sem,seval];refine (Wp a.visits a.visits_c 168 [.ptr 1 0] [ZA a,ZA b] (fun v=>b.visits.any fun w=>decide (v.order=w.order)) ha (by simp (disch:=omega) only [ZA,go_sem,seval]) (by rfl) (fun v _=>qV a b v hb)).useH (Zc ?_);rw [Wv]
theorem RJ (p:Pln) (l:List Rte) (c:Bool) (hp:p.routes.length<=1048576) (hl:l.length<=1048576) (h1: ∀r∈p.routes,WH r) (h2: ∀r∈l,WH r) :
  PC 68 [.p (Wh p),.p (.list c (l.map Z0))] (.int .i64 (Uh p.routes l)):=by
 refine Zd Tryz.func68 rfl ZiS ?_;simp (disch:=omega) only [Tryz.f68,go_sem,seval];refine Zk [2,10,11] (fun k:Nat=> [(12,.p (.int .i64 k))]) (fun _=> [Zu p]) (fun k=>k<=l.length/\ ∀j,j<k->Ob p.routes (nth l j)=true) (fun k=>l.length-k) 0 Zb (Weak.mk ?_) ?_
 ·simp (disch:=omega) only [Zu,go_sem,seval]
 ·rintro k ⟨hk,hno⟩;refine JV ?_;refine cD ?_ ?_<;>intro h<;>simp (disch:=omega) only [Sh.out h,go_sem,seval,↓reduceIte]
  ·have hk2:k<l.length:=Za
   obtain ⟨b1,b2⟩:=h2 _ (Zo hk2);refine Zk [2,6,10,11,12,17,18] (fun q:Nat=> [(7,.p (.int .i64 ((p.routes.take q).countP (fun r=>XR r (nth l k)):Nat))),(19,.p (.int .i64 q))]) (fun _=> [Zu p,ZA (nth l k)]) (fun q=>q<=p.routes.length/\ ∀j,j<q->XR (nth p.routes j) (nth l k)=true\/Wv (nth p.routes j) (nth l k)=false) (fun q=>p.routes.length-q) 0 Zb (Weak.mk ?_) ?_
   ·simp (disch:=omega) only [Zu,ZA,Ya,Cj,go_sem,seval]
   ·rintro q ⟨hq,hin⟩;have hcl:(p.routes.take q).countP (fun r=>XR r (nth l k))<=q:=JF List.countP_le_length (by simp;omega);simp (disch:=omega) only [Zu,ZA,go_sem,seval];refine cD ?_ ?_<;>intro h3<;>simp (disch:=omega) only [Sh.out h3,go_sem,seval,↓reduceIte]
    ·have hq2:q<p.routes.length:=Za
     obtain ⟨a1,a2⟩:=h1 _ (Zo hq2);have hcs:=Mo (f:=fun r=>XR r (nth l k)) hq2;refine (dO (nth p.routes q) (nth l k) ⟨a1,a2⟩ ⟨b1,b2⟩).use (Zc ?_)
     cases hb:XR (nth p.routes q) (nth l k) with
     | true =>
      rw [if_pos hb] at hcs;refine Zc ?_;exact ⟨q+1,⟨Za,Zm.2 ⟨hin,.inl hb⟩⟩,Za,Weak.mk (by simp (disch:=omega) only [hcs,go_sem,seval])⟩
     | false =>
      rw [if_neg (by rw [hb];simp),Wu] at hcs;refine Zc ?_;refine (Zc5 (nth p.routes q) (nth l k) a1 b1).use (Zc ?_)
      cases hm:Wv (nth p.routes q) (nth l k) with
      | true =>
       refine Zc ?_
       grind [Ai,Zjf]
      | false =>
       refine Zc ?_;exact ⟨q+1,⟨Za,Zm.2 ⟨hin,.inr hm⟩⟩,Za,Weak.mk (by simp (disch:=omega) only [hcs,go_sem,seval])⟩
    ·have hql:q=p.routes.length:=Za
     subst hql;have he:=ZcZ hin;simp (disch:=omega) only [Xi,go_sem,seval];refine cD ?_ ?_<;>intro h4<;>simp (disch:=omega) only [go_sem,seval]
     ·grind [Ai]
     ·exact ⟨k+1,⟨Za,Zm.2 ⟨hno,by grind⟩⟩,Za,wk⟩
  grind [Fk]
theorem TX (r b:Rte) (hr:WH r) (hb:WH b):PC 71 [.p (Z0 r),.p (Z0 b)] (.bool (XR r b)):=by
 have ck:=RJ ⟨false,[r],true,[]⟩ [b] false Zb Zb (by grind) (by grind)
 have he:decide (Uh [r] [b]=0)=XR r b:=by
  have:Ob [r] b=XR r b:=by
   grind [Ob]
  rw [Uh,List.all_cons,List.all_nil,US,this];simp
 refine Zf [1] Tryz.func71 rfl ZiV ?_;simp (disch:=omega) only [Tryz.f71,go_sem,seval];refine Vs (dJ 2 3 (Zc ?_));refine ⟨_,_,Weak.fz (o:=2) (by rfl),?_⟩;simp (disch:=omega) only [Zs,Zn,XE,Xe,ZW,ZM,go_sem,seval];refine ⟨_,_,Weak.fz (o:=3) (by rfl),?_⟩;refine Vm ?_;refine (ck).use (Zc ?_);refine Zg [] _ _ _ _ (Zc ?_);exact we (by simp (disch:=omega) only [he,go_sem,seval])
theorem ES (r b:Rte) (hr:WH r) (hb:WH b):PC 73 [.p (Z0 r),.p (Z0 b)] (.bool (XR r b)):=by
 obtain ⟨a1,a2⟩:=hr;obtain ⟨b1,b2⟩:=hb;refine Zd Tryz.func73 rfl ZiX ?_;simp (disch:=omega) only [Tryz.f73,go_sem,seval];refine gF ?_ ?_<;>intro h1<;>simp (disch:=omega) only [Sh.out h1,go_sem,seval,↓reduceIte]
 ·rw [P8 h1]
 ·refine gF ?_ ?_<;>intro h2<;>simp (disch:=omega) only [Sh.out h2,go_sem,seval,↓reduceIte]
  ·rw [G1 h2]
  ·refine gF ?_ ?_<;>intro h3<;>simp (disch:=omega) only [Sh.out h3,go_sem,seval,↓reduceIte]
   ·simp_all [Iz,Ub,XK]
   ·refine cD ?_ ?_<;>intro h4<;>simp (disch:=omega) only [Sh.out h4,go_sem,seval]
    ·simp_all [Iy,Ub,XK]
    ·refine Zk [2,3] (fun k:Nat=> [(5,.p (.int .i64 k))]) (fun _=> [ZA r,ZA b]) (fun k=>k<=b.visits.length/\ ∀j,j<k->nth r.visits j=nth b.visits j) (fun k=>b.visits.length-k) 0 Zb (Weak.mk ?_) ?_
     ·simp (disch:=omega) only [ZA,go_sem,seval]
     ·rintro k ⟨hk,hno⟩;refine Bu ?_;refine cD ?_ ?_<;>intro h5<;>simp (disch:=omega) only [Sh.out h5,go_sem,seval,↓reduceIte]
      ·have hk2:k<b.visits.length:=Za
       refine Xr (Zc ?_);refine ZI ?_ ?_<;>intro h6
       ·rw [Iz (Sa hk2 (fun e=>by grind))]
       ·exact ⟨k+1,⟨Za,Zm.2 ⟨hno,DA.2 (by grind)⟩⟩,Za,wk⟩
      ·have hkl:k=b.visits.length:=Za
       subst hkl;have hv:=FJ.2 ⟨show b.visits.length<=r.visits.length by omega,hno⟩;refine Zk [2,3] (fun k:Nat=> [(6,.p (.int .i64 k))]) (fun _=> [ZA r,ZA b]) (fun k=>k<=b.rests.length/\ ∀j,j<k->nth r.rests j=nth b.rests j) (fun k=>b.rests.length-k) 0 Zb (Weak.mk ?_) ?_
       ·simp (disch:=omega) only [ZA,go_sem,seval]
       ·rintro k ⟨hk,hno⟩;refine Bu ?_;refine cD ?_ ?_<;>intro h7<;>simp (disch:=omega) only [Sh.out h7,go_sem,seval,↓reduceIte]
        ·have hk2:k<b.rests.length:=Za
         refine Xr (Zc ?_);refine ZI ?_ ?_<;>intro h8
         ·grind [Iy,Sa]
         ·exact ⟨k+1,⟨Za,Zm.2 ⟨hno,by grind⟩⟩,Za,wk⟩
        ·have hkl:k=b.rests.length:=Za
         subst hkl;have hw:=FJ.2 ⟨show b.rests.length<=r.rests.length by omega,hno⟩;have e:=P7 (Xs.1 h1) (Xs.1 h2) hv hw;refine gF ?_ ?_<;>intro h9<;>simp (disch:=omega) only [Sh.out h9,go_sem,seval,↓reduceIte]
         ·grind
         ·refine gT ?_ ?_<;>intro h10<;>simp (disch:=omega) only [Sh.out h10,go_sem,seval,↓reduceIte]
          ·rw [e];refine Z5 (fun q=>V.p (PV.bool q)) ?_
           grind
          grind
theorem ET (r b:Rte) (hr:WH r) (hb:WH b):PC 30 [.p (Z0 r),.p (Z0 b)] (.bool (XR r b)):=by
 refine Zd Tryz.func30 rfl Zix ?_;simp (disch:=omega) only [Tryz.f30,go_sem,seval];refine (ES r b hr hb).use ?_;simp (disch:=omega) only [go_sem,seval]
theorem jQ (p:Pln) (i:Nat) (hr:p.routes.length<=1048576) (hu:p.unserved.length<=1048576) (hv: ∀r∈p.routes,r.visits.length<=1048576) :
  PT 47 [.p (Wh p),.p (.int .i64 (i:Nat))] [.p (.int .i64 (Z3 p.routes i)),.p (.int .i64 (Xx p.unserved i))]:=by
 refine Zf [] Tryz.func47 rfl ZiC ?_;simp (disch:=omega) only [Tryz.f47,go_sem,seval];refine Zk [1,2,7] (fun k:Nat=> [(6,.p (.int .i64 (Z3 (p.routes.take k) i))),(8,.p (.int .i64 k))]) (fun _=> [Zu p]) (fun k=>k<=p.routes.length) (fun k=>p.routes.length-k) 0 Zb (Weak.mk ?_) ?_
 ·simp (disch:=omega) only [Zu,Z3,Ya,Cj,go_sem,seval]
 ·intro k hk;refine JV ?_;refine cD ?_ ?_<;>intro h1<;>simp (disch:=omega) only [Sh.out h1,go_sem,seval,↓reduceIte]
  ·have hk2:k<p.routes.length:=Za
   have hvl:=hv _ (ZF hk2);have hsu:=C2 hk2 i;have hg:=BK (rs:=p.routes) (k:=k) i;refine Zk [1,2,7,8] (fun j:Nat=> [(6,.p (.int .i64 (Z3 (p.routes.take k) i))),(9,.p (.int .i64 j))]) (fun _=> [Zu p]) (fun j=>j<=(nth p.routes k).visits.length/\ ∀q,q<j->(nth (nth p.routes k).visits q).order≠(i:Int)) (fun j=>(nth p.routes k).visits.length-j) 0 Zb (Weak.mk ?_) ?_
   ·simp (disch:=omega) only [Zu,go_sem,seval]
   ·rintro j ⟨hj,hno⟩;refine JV ?_;refine ZI ?_ ?_<;>intro h2
    ·have hj2:j<(nth p.routes k).visits.length:=Za
     refine ZI ?_ ?_<;>intro h3
     ·have hh:hasO (nth p.routes k).visits (i:Int)=true:=Z6.2 ⟨_,ZF hj2,h3⟩;rw [if_pos hh] at hsu;exact ⟨k+1,Za,Za,Weak.mk (by simp (disch:=omega) only [hsu,go_sem,seval])⟩
     ·exact ⟨j+1,⟨Za,Zm.2 ⟨hno,h3⟩⟩,Za,wk⟩
    ·have hh: ¬hasO (nth p.routes k).visits (i:Int)=true:=fun e=>by
      obtain ⟨v,hv,e⟩:=Z6.1 e;obtain ⟨q,hq,rfl⟩:=ZU.1 hv
      grind [Zi]
     rw [if_neg hh] at hsu;exact ⟨k+1,Za,Za,Weak.mk (by simp (disch:=omega) only [hsu,go_sem,seval])⟩
  ·have hkl:k=p.routes.length:=Za
   subst hkl;rw [Xi];refine Zk [1,2,6] (fun k:Nat=> [(7,.p (.int .i64 (Xx (p.unserved.take k) i))),(10,.p (.int .i64 k))]) (fun _=> [Zu p]) (fun k=>k<=p.unserved.length) (fun k=>p.unserved.length-k) 0 Zb (Weak.mk ?_) ?_
   ·simp (disch:=omega) only [Zu,Xx,Ya,Cj,go_sem,seval]
   ·intro k hk;refine JV ?_;refine cD ?_ ?_<;>intro h2<;>simp (disch:=omega) only [Sh.out h2,go_sem,seval,↓reduceIte]
    ·have hk2:k<p.unserved.length:=Za
     have hsu:=C3 hk2 i;have hg:=BL (us:=p.unserved) (k:=k) i;refine ZI ?_ ?_<;>intro h3
     ·rw [if_pos h3] at hsu;exact ⟨k+1,Za,Za,Weak.mk (by simp (disch:=omega) only [hsu,go_sem,seval])⟩
     ·rw [if_neg h3] at hsu;exact ⟨k+1,Za,Za,Weak.mk (by simp (disch:=omega) only [hsu,go_sem,seval])⟩
    ·have hkl:k=p.unserved.length:=Za
     subst hkl;rw [Xi];exact we
theorem Im {n:Nat} {f:Nat->Bool} {k:Nat} (hk:k<n) (h:f k=true):(List.range n).any f=true:=YR.2 ⟨k,ZP.2 hk,h⟩
theorem P1 {n:Nat} {f:Nat->Bool} (h: ∀j,j<n->f j=false):(List.range n).any f=false:=by
 grind
def iX (x:Inst) (p:Pln) (i:Nat):Bool:= !(nth x.orders i).off&&(decide (GE p i=0)||(decide (0<Xx p.unserved i)&&decide ((nth x.orders i).penalty= -1)))
theorem IL (x:Inst) (p:Pln) (hx:InstOk x) (hr:p.routes.length<=1048576) (hu:p.unserved.length<=1048576) (hb: ∀r∈p.routes,WH r) :
  PC 16 [.p (ZE x),.p (Wh p)] (.int .i64 (chkP x p)):=by
 have hn:=KF hx;have ht:=N0 hx;have hvl: ∀r∈p.routes,r.visits.length<=1048576:=fun r hr=>(hb r hr).1
 have cR: ∀i,0<=Z3 p.routes i/\Z3 p.routes i<=1048576:=fun i=>by have:=Ml (rs:=p.routes) i;omega
 have cU: ∀i,0<=Xx p.unserved i/\Xx p.unserved i<=1048576:=fun i=>by have:=Mn (us:=p.unserved) i;omega
 refine Zf [] Tryz.func16 rfl Zin ?_;simp (disch:=omega) only [Tryz.f16,go_sem,seval];refine Zk [2,3] (fun k:Nat=> [(5,.p (.int .i64 k))]) (fun _=> [Zh x,Zu p]) (fun k=>k<=p.routes.length/\ ∀j,j<k->evalE x (nth p.routes j)=0) (fun k=>p.routes.length-k) 0 Zb (Weak.mk ?_) ?_
 ·simp (disch:=omega) only [Zh,Zu,go_sem,seval]
 ·rintro k ⟨hk,h0⟩;refine Wz ?_;refine cD ?_ ?_<;>intro h1<;>simp (disch:=omega) only [Sh.out h1,go_sem,seval,↓reduceIte]
  ·have hk2:k<p.routes.length:=Za
   obtain ⟨b1,b2⟩:=hb _ (ZF hk2);refine ZV 7 mixed Ze Ze (Zc ?_);refine Zr (bG x (nth p.routes k) hx b1 b2) (Zc ?_);refine ZI ?_ ?_<;>intro h2
   ·have he:chkP x p=evalE x (nth p.routes k):=by
     have e:=D5 hk2 h0 h2
     simp_all [chkP]
    rw [he];exact we
   ·exact ⟨k+1,⟨Za,Zm.2 ⟨h0,Za⟩⟩,Za,wk⟩
  ·have hkl:k=p.routes.length:=Za
   subst hkl;have her:=D6 h0;have c0: ¬ ¬errR x p.routes=0:=fun e=>e her;refine Zk [2,3] (fun k:Nat=> [(7,.p (.int .i64 k))]) (fun _=> [Zh x,Zu p]) (fun k=>k<=p.unserved.length/\ ∀j,j<k->0<=nth p.unserved j/\nth p.unserved j<(x.orders.length:Int)) (fun k=>p.unserved.length-k) 0 Zb (Weak.mk ?_) ?_
   ·simp (disch:=omega) only [Zh,Zu,go_sem,seval]
   ·rintro k ⟨hk,hno⟩;refine Wz ?_
    have hbad:k<p.unserved.length->(decide (0<=nth p.unserved k)&&decide (nth p.unserved k<(x.orders.length:Int)))=false->chkP x p=2:=fun h1 h2=>by
     have:Um x p.unserved=false:=by
      grind [Um,ZF]
     simp_all [chkP]
    refine cD ?_ ?_<;>intro h2<;>simp (disch:=omega) only [Sh.out h2,go_sem,seval,↓reduceIte]
    ·have hk2:k<p.unserved.length:=Za
     refine Xr (Zc ?_);refine gF ?_ ?_<;>intro h3<;>simp (disch:=omega) only [Sh.out h3,go_sem,seval,↓reduceIte]
     ·rw [hbad hk2 (by simp;omega)];exact we
     ·refine ZI ?_ ?_<;>intro h4
      ·rw [hbad hk2 (by simp;omega)];exact we
      ·exact ⟨k+1,⟨Za,Zm.2 ⟨hno,Za⟩⟩,Za,wk⟩
    ·have hkl:k=p.unserved.length:=Za
     subst hkl
     have X8:Um x p.unserved=true:=by
      rw [Um,Zt];intro u hu;obtain ⟨j,hj,rfl⟩:=ZU.1 hu
      grind [Zi]
     have c1: ¬Um x p.unserved=false:=by grind
     refine Zk [2,3] (fun k:Nat=> [(8,.p (.int .i64 k))]) (fun _=> [Zh x,Zu p]) (fun k=>k<=x.orders.length/\ ∀j,j<k->decide (1<GE p j)=false) (fun k=>x.orders.length-k) 0 Zb (Weak.mk ?_) ?_
     ·simp (disch:=omega) only [Zh,Zu,go_sem,seval]
     ·rintro k ⟨hk,hno2⟩;refine Wz ?_;refine cD ?_ ?_<;>intro h3<;>simp (disch:=omega) only [Sh.out h3,go_sem,seval,↓reduceIte]
      ·have hk2:k<x.orders.length:=Za
       have a1:=cR k;have a2:=cU k;refine W1 (jQ p k hr hu hvl) (Zc ?_);refine ZI ?_ ?_<;>intro h4
       ·have hv:chkP x p=6:=by rw [chkP,if_neg c0,if_neg c1,if_pos (show QG x p=true from Im hk2 (Yk h4))]
        rw [hv];exact we
       ·exact ⟨k+1,⟨Za,Zm.2 ⟨hno2,XK h4⟩⟩,Za,wk⟩
      ·have c2: ¬QG x p=true:=by grind [QG]
       have hkl:k=x.orders.length:=Za
       subst hkl;refine Zk [2,3] (fun k:Nat=> [(11,.p (.int .i64 k))]) (fun _=> [Zh x,Zu p]) (fun k=>k<=x.types.length/\ ∀j,j<k->decide ((nth x.types j).count<Wo p.routes j)=false) (fun k=>x.types.length-k) 0 Zb (Weak.mk ?_) ?_
       ·simp (disch:=omega) only [Zh,Zu,go_sem,seval]
       ·rintro t ⟨hk,hno3⟩;refine Wz ?_;refine cD ?_ ?_<;>intro h4<;>simp (disch:=omega) only [Sh.out h4,go_sem,seval,↓reduceIte]
        ·have hk2:t<x.types.length:=Za
         refine Zk [2,3,11] (fun k:Nat=> [(12,.p (.int .i64 (Wo (p.routes.take k) t))),(13,.p (.int .i64 k))]) (fun _=> [Zh x,Zu p]) (fun k=>k<=p.routes.length) (fun k=>p.routes.length-k) 0 Zb (Weak.mk ?_) ?_
         ·simp (disch:=omega) only [Zh,Zu,Wo,Ya,Cj,go_sem,seval]
         ·intro k hk;have hg:=Mm (rs:=p.routes) (k:=k) t;refine Wz ?_;refine cD ?_ ?_<;>intro h5<;>simp (disch:=omega) only [Sh.out h5,go_sem,seval,↓reduceIte]
          ·have hk3:k<p.routes.length:=Za
           have hsu:=G7 hk3 t;refine ZI ?_ ?_<;>intro h6
           ·rw [if_pos h6] at hsu;exact ⟨k+1,Za,Za,Weak.mk (by simp (disch:=omega) only [hsu,go_sem,seval])⟩
           ·rw [if_neg h6] at hsu;exact ⟨k+1,Za,Za,Weak.mk (by simp (disch:=omega) only [hsu,go_sem,seval])⟩
          ·have hkl:k=p.routes.length:=Za
           subst hkl
           rw [Xi] at *
           refine ZI ?_ ?_<;>intro h6
           ·have hv:chkP x p=22:=by rw [chkP,if_neg c0,if_neg c1,if_neg c2,if_pos (show UL x p=true from Im hk2 (Yk h6))]
            rw [hv];exact we
           ·exact ⟨t+1,⟨Za,Zm.2 ⟨hno3,XK h6⟩⟩,Za,wk⟩
        ·have c3: ¬UL x p=true:=by grind [UL]
         have hlast:=hno;refine Zk [2,3] (fun k:Nat=> [(14,.p (.int .i64 k))]) (fun _=> [Zh x,Zu p]) (fun k=>k<=p.unserved.length/\ ∀j,j<k->(nth x.orders (nth p.unserved j).toNat).off=false) (fun k=>p.unserved.length-k) 0 Zb (Weak.mk ?_) ?_
         ·simp (disch:=omega) only [Zh,Zu,go_sem,seval]
         ·rintro k ⟨hk,hno4⟩;refine Wz ?_;refine cD ?_ ?_<;>intro h5<;>simp (disch:=omega) only [Sh.out h5,go_sem,seval,↓reduceIte]
          ·have hk2:k<p.unserved.length:=Za
           have hrg:=hno k hk2
           have hui:(nth p.unserved k).toNat<x.orders.length:=Za
           refine Xr (Zc ?_);refine ZI ?_ ?_<;>intro h6
           ·have hcu:0<Xx p.unserved (nth p.unserved k).toNat:=by
             unfold Xx;have:0<p.unserved.countP fun v=>decide (v=((nth p.unserved k).toNat:Int)):=Va.2 ⟨_,ZF hk2,by grind⟩;omega
            have hst:UY x p=true:=Im hui (by grind)
            have hv:chkP x p=9:=by simp_all [chkP]
            rw [hv];exact we
           ·exact ⟨k+1,⟨Za,Zm.2 ⟨hno4,Za⟩⟩,Za,wk⟩
          ·have hkl:k=p.unserved.length:=Za
           subst hkl
           have hoff: ∀i,i<x.orders.length->0<Xx p.unserved i->(nth x.orders i).off=false:=fun i hi hc=>by
            unfold Xx at hc
            have hc2:0<p.unserved.countP fun v=>decide (v=(i:Int)):=Za
            obtain ⟨u,hu,e⟩:=Va.1 hc2;obtain ⟨j,hj,rfl⟩:=ZU.1 hu;have h:=hno4 j hj
            simp_all [Zi]
           have c4: ¬UY x p=true:=by
            rw [UY,P1 fun j hj=> ?_]
            ·simp
            grind
           refine Zk [2,3] (fun k:Nat=> [(15,.p (.int .i64 k))]) (fun _=> [Zh x,Zu p]) (fun k=>k<=x.orders.length/\ ∀j,j<k->iX x p j=false) (fun k=>x.orders.length-k) 0 Zb (Weak.mk ?_) ?_
           ·simp (disch:=omega) only [Zh,Zu,go_sem,seval]
           ·rintro k ⟨hk,hno5⟩;refine Wz ?_;refine cD ?_ ?_<;>intro h6<;>simp (disch:=omega) only [Sh.out h6,go_sem,seval,↓reduceIte]
            ·have hk2:k<x.orders.length:=Za
             have a1:=cR k;have a2:=cU k;have ho:=hoff k hk2
             have miss:(!(nth x.orders k).off&&(decide (GE p k=0)||(decide (0<Xx p.unserved k)&&decide ((nth x.orders k).penalty= -1))))=true->chkP x p=23:=fun h=>by
              rw [chkP,if_neg c0,if_neg c1,if_neg c2,if_neg c3,if_neg c4,if_pos (show KA x p=true from Im hk2 h)]
             have nxt:(!(nth x.orders k).off&&(decide (Z3 p.routes k+Xx p.unserved k=0)||(decide (0<Xx p.unserved k)&&decide ((nth x.orders k).penalty= -1))))=false-> ∀j,j<k+1->iX x p j=false:=fun h=>Zm.2 ⟨hno5,h⟩;have hoc:GE p k=Z3 p.routes k+Xx p.unserved k:=rfl;rw [hoc] at miss;refine W1 (jQ p k hr hu hvl) ?_
             generalize Z3 p.routes k=ca at *
             generalize Xx p.unserved k=cb at *
             refine Zc ?_
             cases hof:(nth x.orders k).off with
             | false =>
              refine gT ?_ ?_<;>intro h7<;>simp (disch:=omega) only [Sh.out h7,hof,VV,go_sem,seval,↓reduceIte]
              ·rw [miss (by grind)];exact we
              ·refine gT ?_ ?_<;>intro h8<;>simp (disch:=omega) only [Sh.out h8,hof,go_sem,seval]
               ·refine ZI ?_ ?_<;>intro h9
                ·rw [miss (by grind)];exact we
                ·exact ⟨k+1,⟨Za,nxt (by grind)⟩,Za,wk⟩
               ·exact ⟨k+1,⟨Za,nxt (by grind)⟩,Za,wk⟩
             | true =>
              have hcb: ¬ 0<cb:=fun e=>by grind
              have hn: ∀j,j<k+1->iX x p j=false:=nxt (by simp [hof]);refine gT ?_ ?_<;>intro h7<;>simp (disch:=omega) only [Sh.out h7,hof,VX,go_sem,seval,↓reduceIte]
              ·refine Bb ?_ ?_<;>intro h8
               ·omega
               ·exact ⟨k+1,⟨Za,hn⟩,Za,wk⟩
              ·refine Bb ?_ ?_<;>intro h8
               ·omega
               ·exact ⟨k+1,⟨Za,hn⟩,Za,wk⟩
            ·have c5: ¬KA x p=true:=by rw [show KA x p=false from P1 fun j hj=>hno5 j Za];simp
             have hv:chkP x p=0:=by simp_all [chkP]
             rw [hv];exact we
def Gy (l:List Rte) (r:Rte):Bool:=l.any fun b=>XR r b
def J3 (l:List Rte) (now:Int) (r:Rte):Bool:= !Gy l r&&decide (r.start<now)
def Un (x:Inst) (p:Pln) (l:List Rte) (now:Int):Int:=if now<0\/4096<now then 2 else if chkP x p≠0 then chkP x p else if Uh p.routes l≠0 then Uh p.routes l else if p.routes.any (J3 l now)=true then 32 else 0
theorem MY {l rs:List Rte} {now:Int} {k:Nat} (hk:k<rs.length) (h:J3 l now (nth rs k)=true):rs.any (J3 l now)=true:=YR.2 ⟨_,Zo hk,h⟩
theorem RN {l rs:List Rte} {now:Int} (h: ∀j,j<rs.length->J3 l now (nth rs j)=false):rs.any (J3 l now)=false:=by
 rw [XY];intro r hr;obtain ⟨j,hj,rfl⟩:=ZU.1 hr
 grind [Zi]
theorem gZ (l:List Rte) (c:Bool) (g:FuncId) (caps:List V) (H:List AM.Obj) (f:Rte->Bool) (hl:l.length<=1048576) (hW:LG H H.length H H) (hc:Z9 H.length caps=true)
  (hg: ∀v∈l,ACalls Tryz.prog g (.p (Z0 v)::caps) H fun x H'=>x= .p (.bool (f v))/\H'=H) :
  ACalls Tryz.prog 121 [.p (.list c (l.map Z0)),.fn (.func g) [] caps] H fun x H'=>(∃i:Int,(0<=i↔l.any f=true)/\x= .p (.int .i64 i))/\H'=H:=by
 refine Ye Tryz.func121 rfl Zau (Zg [] _ _ _ _ ?_);simp (disch:=omega) only [Tryz.f121,go_sem,seval];refine Zk [0,1,7] (fun k:Nat=> [(8,.p (.int .i64 k))]) (fun _=>H) (fun k=>k<=l.length/\ ∀j,j<k->f (nth l j)=false) (fun k=>l.length-k) 0 Zb (Weak.mk ?_) ?_
 ·simp (disch:=omega) only [hW,hc,go_sem,seval];simp
 ·rintro k ⟨hk,hno⟩;refine Zc ?_;refine cD ?_ ?_<;>intro h<;>simp (disch:=omega) only [Sh.out h,go_sem,seval,↓reduceIte]
  ·have hk2:k<l.length:=Za
   have hgk:=hg (nth l k) (Zo hk2);simp (disch:=omega) only [go_sem,seval] at hgk;refine hgk.useH (Zc ?_);refine cD ?_ ?_<;>intro h2<;>simp (disch:=omega) only [Sh.out h2,go_sem,seval,↓reduceIte]
   ·exact ⟨(k:Int),⟨fun _=>YR.2 ⟨_,Zo hk2,h2⟩,fun _=>Za⟩,rfl⟩
   ·have h3:f (nth l k)=false:=Za
    refine ⟨k+1,⟨Za,Zm.2 ⟨hno,h3⟩⟩,Za,Weak.mk ?_⟩;simp (disch:=omega) only [hW,hc,go_sem,seval];simp
  ·have hkl:k=l.length:=Za
   subst hkl
   have hn:l.any f=false:=by
    rw [XY];intro r hr;obtain ⟨j,hj,rfl⟩:=ZU.1 hr
    grind [Zi]
   grind
theorem Mq (l:List Rte) (c:Bool) (g:FuncId) (caps:List V) (H:List AM.Obj) (f:Rte->Bool) (hl:l.length<=1048576) (hW:LG H H.length H H) (hc:Z9 H.length caps=true)
  (hg: ∀v∈l,ACalls Tryz.prog g (.p (Z0 v)::caps) H fun x H'=>x= .p (.bool (f v))/\H'=H) :
  ACalls Tryz.prog 69 [.p (.list c (l.map Z0)),.fn (.func g) [] caps] H fun x H'=>x= .p (.bool (l.any f))/\H'=H:=by
 refine Ye Tryz.func69 rfl ZiT (Zg [] _ _ _ _ ?_);simp (disch:=omega) only [Tryz.f69,go_sem,seval];refine (gZ l c g caps H f hl hW hc hg).mono ?_;rintro y H' ⟨⟨i,hi,rfl⟩,rfl⟩;refine Zc ?_
 grind
theorem mP (x:Inst) (p:Pln) (r b:Rte) (hr:WH r) (hb:WH b):ACalls Tryz.prog 70 [.p (Z0 b),.ptr 2 0] [Zh x,Zu p,ZA r] fun y H'=>y= .p (.bool (XR r b))/\H'= [Zh x,Zu p,ZA r]:=by
 refine Zf [] Tryz.func70 rfl ZiU ?_;simp (disch:=omega) only [Tryz.f70,ZA,Zh,Zu,go_sem,seval];refine (TX r b hr hb).use (Zc ?_);exact we
theorem mG (now:Int):PC 62 [.p (.int .i64 now)] (.bool (decide (0<=now/\now<=4096))):=by
 refine Zd Tryz.func62 rfl ZiO ?_;simp (disch:=omega) only [Tryz.f62,go_sem,seval];refine gT ?_ ?_<;>intro h1<;>simp (disch:=omega) only [Sh.out h1,go_sem,seval,↓reduceIte]
theorem tM (x:Inst) (p:Pln) (l:List Rte) (c:Bool) (now:Int) (hx:InstOk x) (hp:p.routes.length<=1048576) (hu:p.unserved.length<=1048576) (hl:l.length<=1048576) (h1: ∀r∈p.routes,WH r) (h2: ∀r∈l,WH r) :
  PC 28 [.p (ZE x),.p (Wh p),.p (.list c (l.map Z0)),.p (.int .i64 now)] (.int .i64 (Un x p l now)):=by
 obtain ⟨T,hT⟩: ∃T,T=Un x p l now:=⟨_,rfl⟩;rw [<- hT];unfold Un at hT;refine Zf [] Tryz.func28 rfl Ziv ?_;simp (disch:=omega) only [Tryz.f28,go_sem,seval];refine (mG now).use (Zc ?_);refine cD ?_ ?_<;>intro g1<;>simp (disch:=omega) only [Sh.out g1,go_sem,seval,↓reduceIte]
 rotate_left
 ·rw [if_neg Za] at hT;refine (Zdj x p hx hp hu h1).use (Zc ?_);refine cD ?_ ?_<;>intro g2<;>simp (disch:=omega) only [Sh.out g2,go_sem,seval,↓reduceIte]
  ·rw [if_pos g2] at hT;exact ⟨.p (.int .i64 T),[],Weak.mk (by simp (disch:=omega) only [hT,go_sem,seval]),rfl,rfl⟩
  ·rw [if_neg g2] at hT;refine (RJ p l c hp hl h1 h2).use (Zc ?_);refine cD ?_ ?_<;>intro g3<;>simp (disch:=omega) only [Sh.out g3,go_sem,seval,↓reduceIte]
   ·rw [if_pos g3] at hT;exact ⟨.p (.int .i64 T),[],Weak.mk (by simp (disch:=omega) only [hT,go_sem,seval]),rfl,rfl⟩
   ·rw [if_neg g3] at hT;refine Zk [2,3,30,31] (fun k:Nat=> [(32,.p (.int .i64 k))]) (fun _=> [Zh x,Zu p]) (fun k=>k<=p.routes.length/\ ∀j,j<k->J3 l now (nth p.routes j)=false) (fun k=>p.routes.length-k) 0 Zb (Weak.mk ?_) ?_
    ·simp (disch:=omega) only [Zu,Zh,go_sem,seval]
    ·rintro k ⟨hk,hno⟩;simp (disch:=omega) only [Zu,Zh,go_sem,seval];refine cD ?_ ?_<;>intro h<;>simp (disch:=omega) only [Sh.out h,go_sem,seval,↓reduceIte]
     ·have hk2:k<p.routes.length:=Za
      have hr:=h1 _ (Zo hk2);refine (Mq l c 70 [.ptr 2 0] [Zh x,Zu p,ZA (nth p.routes k)] (fun b=>XR (nth p.routes k) b) hl (by simp (disch:=omega) only [Zh,Zu,ZA,go_sem,seval]) (by rfl) (fun b hb=>mP x p _ b hr (h2 b hb))).useH (Zc ?_);have hlb:J3 l now (nth p.routes k)=(!(l.any fun b=>XR (nth p.routes k) b)&&decide ((nth p.routes k).start<now)):=rfl
      cases hb:(l.any fun b=>XR (nth p.routes k) b) with
      | true =>
       rw [hb] at hlb;refine J7 ?_;exact ⟨k+1,⟨Za,Zm.2 ⟨hno,by rw [hlb];rfl⟩⟩,Za,Weak.mk (by simp (disch:=omega) only [Zh,Zu,go_sem,seval])⟩
      | false =>
       rw [hb] at hlb;simp (disch:=omega) only [VV,ZA,go_sem,seval];refine ZI ?_ ?_<;>intro h4
       ·rw [if_pos (MY hk2 (by grind))] at hT;exact ⟨.p (.int .i64 T),[],Weak.mk (by simp (disch:=omega) only [hT,go_sem,seval]),rfl,rfl⟩
       ·exact ⟨k+1,⟨Za,Zm.2 ⟨hno,by grind⟩⟩,Za,Weak.mk (by simp (disch:=omega) only [Zh,Zu,go_sem,seval])⟩
     ·have hkl:k=p.routes.length:=Za
      subst hkl;rw [if_neg (by rw [RN hno];simp)] at hT;exact ⟨.p (.int .i64 T),[],Weak.mk (by simp (disch:=omega) only [hT,go_sem,seval]),rfl,rfl⟩
 ·rw [if_pos Za] at hT;exact ⟨.p (.int .i64 T),[],Weak.mk (by simp (disch:=omega) only [hT,go_sem,seval]),rfl,rfl⟩
theorem PI (a b:Rte) (ha:a.visits.length<=1048576) (hb:b.visits.length<=1048576):PC 122 [.p (Z0 a),.p (Z0 b)] (.bool (Wv a b)):=by
 refine Zd Tryz.func122 rfl Zav ?_;simp (disch:=omega) only [Tryz.f122,go_sem,seval];refine Zk [2,3] (fun k:Nat=> [(5,.p (.int .i64 k))]) (fun _=> [ZA a,ZA b]) (fun k=>k<=a.visits.length/\ ∀j,j<k-> ∀w∈b.visits,(nth a.visits j).order≠w.order) (fun k=>a.visits.length-k) 0 Zb (Weak.mk ?_) ?_
 ·simp (disch:=omega) only [ZA,go_sem,seval]
 ·rintro k ⟨hk,hno⟩;refine Bu ?_;refine cD ?_ ?_<;>intro h<;>simp (disch:=omega) only [Sh.out h,go_sem,seval,↓reduceIte]
  ·have hk2:k<a.visits.length:=Za
   refine Zk [2,3,5] (fun q:Nat=> [(6,.p (.int .i64 q))]) (fun _=> [ZA a,ZA b]) (fun q=>q<=b.visits.length/\ ∀j,j<q->(nth a.visits k).order≠(nth b.visits j).order) (fun q=>b.visits.length-q) 0 Zb (Weak.mk ?_) ?_
   ·simp (disch:=omega) only [ZA,go_sem,seval]
   ·rintro q ⟨hq,hin⟩;refine Bu ?_;refine ZI ?_ ?_<;>intro h2
    ·have hq2:q<b.visits.length:=Za
     refine Xr (Zc ?_);refine ZI ?_ ?_<;>intro h3
     ·grind [Wv,Zo]
     ·exact ⟨q+1,⟨Za,Zm.2 ⟨hin,h3⟩⟩,Za,wk⟩
    ·have hql:q=b.visits.length:=Za
     subst hql;refine ⟨k+1,⟨Za,Zm.2 ⟨hno,fun w hw=> ?_⟩⟩,Za,wk⟩;obtain ⟨j,hj,rfl⟩:=ZU.1 hw
     grind [Zi]
  ·have hkl:k=a.visits.length:=Za
   subst hkl
   have:Wv a b=false:=by
    rw [Wv,XY];intro v hv;obtain ⟨j,hj,rfl⟩:=ZU.1 hv;rw [YR];rintro ⟨w,hw,e⟩;have:=hno j hj w hw;rw [Zi hj] at this
    grind
   rw [this]
def Lf (rs:List Rte) (b:Rte):Bool:=rs.any fun r=> !XR r b&&Wv r b
theorem Zc0 {rs:List Rte} {b:Rte} :Ob rs b=(decide (rs.countP (fun r=>XR r b)=1)&& !Lf rs b):=by
 grind [Ob,Lf]
theorem Tu (p:Pln) (l:List Rte) (c:Bool) (hp:p.routes.length<=1048576) (hl:l.length<=1048576) (h1: ∀r∈p.routes,WH r) (h2: ∀r∈l,WH r) :
  PC 72 [.p (Wh p),.p (.list c (l.map Z0))] (.int .i64 (Uh p.routes l)):=by
 refine Zd Tryz.func72 rfl ZiW ?_;simp (disch:=omega) only [Tryz.f72,go_sem,seval];refine Zk [1,2] (fun k:Nat=> [(5,.p (.int .i64 k))]) (fun _=> [Zu p]) (fun k=>k<=l.length/\ ∀j,j<k->Ob p.routes (nth l j)=true) (fun k=>l.length-k) 0 Zb (Weak.mk ?_) ?_
 ·simp (disch:=omega) only [Zu,go_sem,seval]
 ·rintro k ⟨hk,hno⟩;refine JV ?_;refine cD ?_ ?_<;>intro h<;>simp (disch:=omega) only [Sh.out h,go_sem,seval,↓reduceIte]
  ·have hk2:k<l.length:=Za
   obtain ⟨b1,b2⟩:=h2 _ (Zo hk2);refine Zk [1,2,5] (fun q:Nat=> [(6,.p (.int .i64 ((p.routes.take q).countP (fun r=>XR r (nth l k)):Nat))),(7,.p (.bool (Lf (p.routes.take q) (nth l k)))),(8,.p (.int .i64 q))]) (fun _=> [Zu p]) (fun q=>q<=p.routes.length) (fun q=>p.routes.length-q) 0 Zb (Weak.mk ?_) ?_
   ·simp (disch:=omega) only [Zu,Ya,Cj,Lf,List.any_nil,go_sem,seval]
   ·intro q hq;have hcl:(p.routes.take q).countP (fun r=>XR r (nth l k))<=q:=JF List.countP_le_length (by simp;omega);refine JV ?_;refine cD ?_ ?_<;>intro h3<;>simp (disch:=omega) only [Sh.out h3,go_sem,seval,↓reduceIte]
    ·have hq2:q<p.routes.length:=Za
     obtain ⟨a1,a2⟩:=h1 _ (Zo hq2);have hcs:=Mo (f:=fun r=>XR r (nth l k)) hq2
     have hos:Lf (p.routes.take (q+1)) (nth l k)=(Lf (p.routes.take q) (nth l k)||(!XR (nth p.routes q) (nth l k)&&Wv (nth p.routes q) (nth l k))):=by
      grind [Lf,Xl,Zi]
     refine Xr (Zc ?_);refine Zr (ES (nth p.routes q) (nth l k) ⟨a1,a2⟩ ⟨b1,b2⟩) (Zc ?_)
     cases hb:XR (nth p.routes q) (nth l k) with
     | true =>
      rw [if_pos hb] at hcs;rw [hb,VX,UR,JD] at hos;refine Zc ?_;exact ⟨q+1,Za,Za,Weak.mk (by simp (disch:=omega) only [hcs,hos,go_sem,seval])⟩
     | false =>
      rw [if_neg (by rw [hb];simp),Wu] at hcs;rw [hb,VV,Wt] at hos;refine Zc ?_;generalize Lf (p.routes.take q) (nth l k)=O at hos ⊢
      cases O with
      | true =>
       rw [Bool.true_or] at hos;refine ZV 13 mixed Ze Ze (Zc ?_);exact ⟨q+1,Za,Za,Weak.mk (by simp (disch:=omega) only [hcs,hos,go_sem,seval])⟩
      | false =>
       rw [JC] at hos;refine ZV 13 mixed Ze Ze (Zc ?_);refine Zr (PI (nth p.routes q) (nth l k) a1 b1) (Zc ?_);exact ⟨q+1,Za,Za,Weak.mk (by simp (disch:=omega) only [hcs,hos,go_sem,seval])⟩
    ·have hql:q=p.routes.length:=Za
     subst hql;have he:=Zc0 (rs:=p.routes) (b:=nth l k);rw [Xi];refine gF ?_ ?_<;>intro h4<;>simp (disch:=omega) only [Sh.out h4,go_sem,seval,↓reduceIte]
     ·rw [Ai hk2 (by grind)]
     ·rw [Yk Za,Wt] at he;generalize Lf p.routes (nth l k)=O at he ⊢
      cases O with
      | true =>
       refine Zc ?_
       grind [Ai]
      | false =>
       refine Zc ?_;exact ⟨k+1,⟨Za,Zm.2 ⟨hno,by rw [he];rfl⟩⟩,Za,wk⟩
  grind [Fk]
theorem bH (x:Inst) (p:Pln) (l:List Rte) (c:Bool) (now:Int) (hx:InstOk x) (hp:p.routes.length<=1048576) (hu:p.unserved.length<=1048576) (hl:l.length<=1048576) (h1: ∀r∈p.routes,WH r) (h2: ∀r∈l,WH r) :
  PC 29 [.p (ZE x),.p (Wh p),.p (.list c (l.map Z0)),.p (.int .i64 now)] (.int .i64 (Un x p l now)):=by
 obtain ⟨T,hT⟩: ∃T,T=Un x p l now:=⟨_,rfl⟩;rw [<- hT];unfold Un at hT;refine Zd Tryz.func29 rfl Ziw ?_;simp (disch:=omega) only [Tryz.f29,go_sem,seval];refine gF ?_ ?_<;>intro g0<;>simp (disch:=omega) only [Sh.out g0,go_sem,seval,↓reduceIte]
 ·grind
 ·refine cD ?_ ?_<;>intro g1<;>simp (disch:=omega) only [Sh.out g1,go_sem,seval,↓reduceIte]
  ·grind
  ·rw [if_neg Za] at hT;refine (IL x p hx hp hu h1).use (Zc ?_);refine cD ?_ ?_<;>intro g2<;>simp (disch:=omega) only [Sh.out g2,go_sem,seval,↓reduceIte]
   ·grind
   ·rw [if_neg g2] at hT;refine (Tu p l c hp hl h1 h2).use (Zc ?_);refine cD ?_ ?_<;>intro g3<;>simp (disch:=omega) only [Sh.out g3,go_sem,seval]
    ·grind
    ·rw [if_neg g3] at hT;refine Zk [2,3,5] (fun k:Nat=> [(10,.p (.int .i64 k))]) (fun _=> [Zh x,Zu p]) (fun k=>k<=p.routes.length/\ ∀j,j<k->J3 l now (nth p.routes j)=false) (fun k=>p.routes.length-k) 0 Zb (Weak.mk ?_) ?_
     ·simp (disch:=omega) only [Zu,Zh,go_sem,seval]
     ·rintro k ⟨hk,hno⟩;simp (disch:=omega) only [Zu,Zh,go_sem,seval];refine cD ?_ ?_<;>intro h<;>simp (disch:=omega) only [Sh.out h,go_sem,seval,↓reduceIte]
      ·have hk2:k<p.routes.length:=Za
       have hr:=h1 _ (Zo hk2);refine Zk [2,3,5,10] (fun q:Nat=> [(11,.p (.bool (Gy (l.take q) (nth p.routes k)))),(12,.p (.int .i64 q))]) (fun _=> [Zh x,Zu p]) (fun q=>q<=l.length) (fun q=>l.length-q) 0 Zb (Weak.mk ?_) ?_
       ·simp (disch:=omega) only [Zu,Zh,Ya,Gy,List.any_nil,go_sem,seval]
       ·intro q hq;simp (disch:=omega) only [Zu,Zh,go_sem,seval];refine cD ?_ ?_<;>intro h3<;>simp (disch:=omega) only [Sh.out h3,go_sem,seval,↓reduceIte]
        ·have hq2:q<l.length:=Za
         have hbs:Gy (l.take (q+1)) (nth p.routes k)=(Gy (l.take q) (nth p.routes k)||XR (nth p.routes k) (nth l q)):=by
          grind [Gy,Xl,Zi]
         generalize Gy (l.take q) (nth p.routes k)=O at hbs ⊢
         cases O with
         | true =>
          rw [Bool.true_or] at hbs;refine ZV 13 mixed Ze Ze (Zc ?_);exact ⟨q+1,Za,Za,Weak.mk (by simp (disch:=omega) only [hbs,go_sem,seval])⟩
         | false =>
          rw [JC] at hbs;refine ZV 13 mixed Ze Ze (Zc ?_);refine Zr (ET (nth p.routes k) (nth l q) hr (h2 _ (Zo hq2))) (Zc ?_);exact ⟨q+1,Za,Za,Weak.mk (by simp (disch:=omega) only [hbs,go_sem,seval])⟩
        ·have hql:q=l.length:=Za
         subst hql;rw [Xi];have hlb:J3 l now (nth p.routes k)=(!(Gy l (nth p.routes k))&&decide ((nth p.routes k).start<now)):=rfl;generalize Gy l (nth p.routes k)=O at hlb ⊢
         cases O with
         | true =>
          refine J7 ?_;exact ⟨k+1,⟨Za,Zm.2 ⟨hno,by rw [hlb];rfl⟩⟩,Za,wk⟩
         | false =>
          refine KT ?_;refine ZI ?_ ?_<;>intro h4
          ·rw [hT,if_pos (MY hk2 (by grind))]
          ·exact ⟨k+1,⟨Za,Zm.2 ⟨hno,by grind⟩⟩,Za,wk⟩
      ·have hkl:k=p.routes.length:=Za
       simp_all [RN]
def pdep (s:She):Nat->Int
 | 0=>s.dep
 | i+1=>(nth s.times i).dep
structure LabS (sp:List Stp) (k:Nat) (L:Lab):Prop where
 len:L.she.times.length=k
 seg: ∀i,i<k->((nth L.she.times i).arr<=(nth L.she.times i).beg/\0<=(nth L.she.times i).arr/\(nth L.she.times i).beg<=4096)/\pdep L.she i<=(nth L.she.times i).arr
 dep: ∀i,i+1<k->(nth L.she.times i).beg+(nth sp i).serv<=(nth L.she.times i).dep
 fst:0<k->0<=L.she.dep
 rdy: ∀i,i+1=k->L.ready=(nth L.she.times i).beg+(nth sp i).serv
 ge:0<=L.ready
structure SheOk (sp:List Stp) (s:She):Prop where
 len:s.times.length=sp.length
 seg: ∀i,i<sp.length->((nth s.times i).arr<=(nth s.times i).beg/\0<=(nth s.times i).arr/\(nth s.times i).beg<=4096)/\pdep s i<=(nth s.times i).arr
 dep: ∀i,i<sp.length->(nth s.times i).beg+(nth sp i).serv<=(nth s.times i).dep
 fst:0<=s.dep
 lst:pdep s sp.length<=s.fin
theorem jM {α:Type} [Inhabited α] {l:List α} {i j:Nat} {a:α} (h:i<l.length):nth (l.set i a) j=if i=j then a else nth l j:=by
 grind [nth]
theorem jN {α:Type} [Inhabited α] {l:List α} {j:Nat} {a:α} (h:j<l.length):nth (l++ [a]) j=nth l j:=by
 grind [nth]
theorem jL {α:Type} [Inhabited α] {l:List α} {a:α} :nth (l++ [a]) l.length=a:=by
 grind [nth]
structure MarkS (sp:List Stp) (k:Nat) (d:Int) (m:She):Prop where
 len:m.times.length=k
 seg: ∀i,i<k->((nth m.times i).arr<=(nth m.times i).beg/\0<=(nth m.times i).arr/\(nth m.times i).beg<=4096)/\pdep m i<=(nth m.times i).arr
 dep: ∀i,i<k->(nth m.times i).beg+(nth sp i).serv<=(nth m.times i).dep
 fst:0<=m.dep
 cur:pdep m k=d
theorem RR {sp:List Stp} {k:Nat} {L:Lab} {d:Int} {b:Bool} (h:LabS sp k L) (hd:L.ready<=d):MarkS sp k d (XF k d b L.she):=by
 have hge:=h.ge
 cases k with
 | zero =>
  have e:XF 0 d b L.she= { L.she with rest:=b,dep:=d } :=by simp [XF]
  rw [e];exact ⟨h.len,fun i hi=>Za,fun i hi=>Za,by grind,rfl⟩
 | succ k =>
  have hl:=h.len;have hr:=h.rdy k rfl
  have e:XF (k+1) d b L.she= { L.she with times:=L.she.times.set k { nth L.she.times k with dep:=d,rest:=b } } :=by rfl
  rw [e];have hn: ∀i,nth (L.she.times.set k { nth L.she.times k with dep:=d,rest:=b }) i=if k=i then { nth L.she.times k with dep:=d,rest:=b } else nth L.she.times i:=fun i=>jM Za;refine ⟨by grind,fun i hi=> ?_,fun i hi=> ?_,h.fst Za,?_⟩
  ·have hs:=h.seg i hi
   have ha:(nth (L.she.times.set k { nth L.she.times k with dep:=d,rest:=b }) i).arr=(nth L.she.times i).arr/\(nth (L.she.times.set k { nth L.she.times k with dep:=d,rest:=b }) i).beg=(nth L.she.times i).beg:=by
    grind
   simp only;rw [ha.1,ha.2];refine ⟨hs.1,?_⟩
   cases i with
   | zero=>exact hs.2
   | succ i =>
    simp only [pdep] at hs ⊢
    grind
  ·simp only;rw [hn]
   split
   ·grind
   ·exact h.dep i Za
  ·simp only [pdep]
   grind
theorem rH {x:Inst} {t:Typ} {sp:List Stp} {k:Nat} {L:Lab} {b:Bool} (hT:TrpOk x t sp) (hk:k<sp.length) (h:LabS sp k L) (he:(XX x t sp k L b).2=0):LabS sp (k+1) (XX x t sp k L b).1:=by
 have hrs:=hT.rst
 have hd:L.ready<=ZJ t L b:=by grind [ZJ]
 have hge:=h.ge;have hm:=RR (b:=b) h hd;have hgo:(YY x t sp k (ZJ t L b)).2.2=0->ZJ t L b<=(YY x t sp k (ZJ t L b)).1:=fun e=>IZ hT.net e;have hst:=hT.stp _ (ZF hk);unfold XX at he ⊢
 generalize YY x t sp k (ZJ t L b)=g at *
 generalize ZJ t L b=d at *
 generalize W0 L b=s at *
 generalize XF k d b L.she=m at *
 have hk2: ¬k=sp.length:=Za
 unfold Wm at he ⊢;simp only [if_neg hk2] at he ⊢
 split at he
 ·simp at he
 ·rename_i c1;rw [if_neg c1];have hg:=hgo Za
  split at he
  ·simp at he
  ·rename_i c2;rw [if_neg c2]
   split at he
   ·simp at he
   ·rename_i c3;rw [if_neg c3];have hml:=hm.len;have hn: ∀i,i<k->nth (m.times++ [⟨g.1,max g.1 (nth sp k).opn,0,false⟩]) i=nth m.times i:=fun i hi=>jN Za
    have hl:nth (m.times++ [(⟨g.1,max g.1 (nth sp k).opn,0,false⟩:Tim)]) k=⟨g.1,max g.1 (nth sp k).opn,0,false⟩:=by grind [jL]
    refine ⟨by simp [hml],fun i hi=> ?_,fun i hi=> ?_,fun _=>hm.fst,fun i hi=> ?_,by grind⟩
    ·have hpd:pdep { m with times_c:=false,times:=m.times++ [⟨g.1,max g.1 (nth sp k).opn,0,false⟩],miles:=m.miles+g.2.1 } i=pdep m i:=by
      cases i with
      | zero=>rfl
      | succ i=>grind [pdep]
     simp only at hpd ⊢;rw [hpd]
     by_cases e:i=k
     ·subst e;rw [hl,hm.cur]
      grind
     ·rw [hn i Za];exact hm.seg i Za
    ·simp only;rw [hn i Za];exact hm.dep i Za
    grind
theorem rF {x:Inst} {t:Typ} {sp:List Stp} {L:Lab} {b:Bool} (hT:TrpOk x t sp) (h:LabS sp sp.length L) (he:(XX x t sp sp.length L b).2=0):SheOk sp (XX x t sp sp.length L b).1.she:=by
 have hrs:=hT.rst
 have hd:L.ready<=ZJ t L b:=by grind [ZJ]
 have hm:=RR (b:=b) h hd;have hgo:(YY x t sp sp.length (ZJ t L b)).2.2=0->ZJ t L b<=(YY x t sp sp.length (ZJ t L b)).1:=fun e=>IZ hT.net e;unfold XX at he ⊢
 generalize YY x t sp sp.length (ZJ t L b)=g at *
 generalize ZJ t L b=d at *
 generalize W0 L b=s at *
 generalize XF sp.length d b L.she=m at *
 unfold Wm at he ⊢;simp only [if_true] at he ⊢
 split at he
 ·simp at he
 ·rename_i c1;rw [if_neg c1];have hg:=hgo Za
  split at he
  ·simp at he
  ·rename_i c2;rw [if_neg c2]
   split at he
   ·simp at he
   ·rename_i c3;rw [if_neg c3]
    have hpd: ∀i,pdep { m with fin:=g.1,miles:=m.miles+g.2.1 } i=pdep m i:=fun i=>by rfl
    refine ⟨hm.len,fun i hi=> ?_,hm.dep,hm.fst,?_⟩
    ·rw [hpd];exact hm.seg i hi
    ·rw [hpd,hm.cur];exact hg
theorem Sd {x:Inst} {t:Typ} {sp:List Stp} (hT:TrpOk x t sp): ∀(bs:List Bool) (k:Nat) (L:Lab),LabS sp k L->k+bs.length=sp.length+1->0<bs.length->(Xa x t sp k L bs).2=0->SheOk sp (Xa x t sp k L bs).1.she
 | [],k,L,_,_,h3,_=>by simp at h3
 | b::bs,k,L,h1,h2,_,h=>by
  rw [Xa] at h ⊢
  by_cases h4:(XX x t sp k L b).2=0
  ·simp only [h4,if_true] at h ⊢
   cases bs with
   | nil =>
    simp_all [Xa,rF]
   | cons b2 bs =>
    simp at h2;exact Sd hT (b2::bs) (k+1) _ (rH hT Za h1 h4) (by simp;omega) Zb h
  grind
theorem fL {x:Inst} {r:Rte} (hx:InstOk x) (h:evalE x r=0):SheOk (Xp x r.visits) (ZY x r):=by
 obtain ⟨hty,h0,hs⟩:=X3 (X7 h)
 have e:ZY x r=(Xh x r).1:=by rw [ZY,if_pos h]
 have ee:(Xh x r).2=0:=by rw [evalE,if_pos (X7 h)] at h;exact h
 have hT:=Q8 hx hty (W4 h0);obtain ⟨bs,hb1,hb2,hb3⟩:=G3 (by grind [X4]) ee;have hb3:(Xh x r).1=_:=hb3;rw [e,hb3];have hop:=hT.opn;refine Sd hT bs 0 _ ⟨rfl,fun i hi=>Za,fun i hi=>Za,fun h=>Za,fun i hi=>Za,?_⟩ Za Za hb2
 grind [Xk]
def Q3 (s:She):AM.Obj:= .cells [.p (.bool s.rest),.p (.int .i64 s.dep),.p (.list s.times_c (s.times.map eTim)),.p (.int .i64 s.fin),.p (.int .i64 s.miles)]
def F1 (s:Sco):AM.Obj:= .cells [.p (.int .i64 s.cost),.p (.int .i64 s.moved),.p (.int .i64 s.other),.p (.int .i64 s.work)]
def zR (x:Inst) (r:Rte) (s:She) (i:Nat):Int:=(nth s.times i).beg+(stopV x (nth r.visits i)).serv
structure FixOk (x:Inst) (r:Rte) (s:She):Prop where
 typ:0<=r.typ/\r.typ<(x.types.length:Int)
 tl:x.types.length<=6
 ol:x.orders.length<=10
 vl:r.visits.length<=1048576
 len:s.times.length=r.visits.length
 inr: ∀i,i<r.visits.length->0<=(nth r.visits i).order/\(nth r.visits i).order<(x.orders.length:Int)
 beg: ∀i,i<r.visits.length->0<=(nth s.times i).beg/\(nth s.times i).beg<=4096
 srv: ∀i,i<r.visits.length->0<=(stopV x (nth r.visits i)).serv/\(stopV x (nth r.visits i)).serv<=4096
theorem Td (x:Inst) (r:Rte) (s:She) (hf:FixOk x r s) (i:Nat) (hi:i<r.visits.length) :
  PC 124 [.p (ZE x),.p (Z0 r),.p (BR s),.p (.int .i64 i)] (.int .i64 (zR x r s i)):=by
 obtain ⟨h1,h2⟩:=hf.inr i hi;have h3:=hf.beg i hi;have h4:=hf.srv i hi;have h5:=hf.len;have h6:=hf.vl;have h7:=hf.ol
 have hto:(nth r.visits i).order.toNat<x.orders.length:=Za
 refine Zd Tryz.func124 rfl Zax ?_;simp (disch:=omega) only [Tryz.f124,go_sem,seval];refine XI [10,11] 12 mixed Ze Ze Ze Zb (Zc ?_);refine ZL 10 _ _ Ze (by refine Zc ?_;exact ⟨rfl,rfl⟩) ?_;refine Zc ?_;refine ZL 11 _ _ Ze (by refine Zc ?_;exact ⟨rfl,rfl⟩) (Yo ?_);refine Zc ?_;unfold zR
 cases hd:(nth r.visits i).drp with
 | true =>
  rw [stopV,hd,if_pos rfl] at h4 ⊢;refine Zc ?_;refine Xr ?_;simp (disch:=omega) only [go_sem,seval,↓reduceIte]
 | false =>
  rw [stopV,hd,if_neg Zb] at h4 ⊢;refine Zc ?_;refine Xr ?_;simp (disch:=omega) only [go_sem,seval,↓reduceIte]
def aA (x:Inst) (r:Rte) (s:She):Nat->Int
 | 0=>max (ZN x r).opn r.start
 | k+1=>zR x r s k
def IW (x:Inst) (r:Rte) (s:She) (now:Int):Nat->Nat->Nat
 | 0,k=>k
 | f+1,k=>if now<=aA x r s k then k else IW x r s now f (k+1)
def BU (x:Inst) (r:Rte) (s:She) (now:Int):Nat:=IW x r s now r.visits.length 0
def BN (x:Inst) (r:Rte) (s:She) (now:Int):Bool:=decide (BU x r s now=r.visits.length)&&(decide (0<r.visits.length)&&decide (aA x r s r.visits.length<now))
theorem Rr {x r s now} : ∀f k,k<=IW x r s now f k/\IW x r s now f k<=k+f
 | 0,k=>by simp [IW]
 | f+1,k=>by
  rw [IW];have:=Rr (x:=x) (r:=r) (s:=s) (now:=now) f (k+1)
  split<;>omega
theorem Rs {x r s now} :BU x r s now<=r.visits.length:=by grind [Rr,BU]
theorem Tg (x:Inst) (r:Rte) (s:She) (now:Int) (hf:FixOk x r s) (ho:0<=(ZN x r).opn/\(ZN x r).opn<=4096) (hs: -9223372036854775808<=r.start/\r.start<=9223372036854775807) :
  PT 75 [.p (ZE x),.p (Z0 r),.p (BR s),.p (.int .i64 now)] [.p (.int .i64 (BU x r s now)),.p (.bool (BN x r s now))]:=by
 have h1:=hf.typ;have h2:=hf.tl;have h5:=hf.len;have h6:=hf.vl;have e0:aA x r s 0=max (nth x.types r.typ.toNat).opn r.start:=rfl;refine Zf [] Tryz.func75 rfl ZiZ ?_;simp (disch:=omega) only [Tryz.f75,go_sem,seval];refine Xr (Zc ?_);rw [<- e0];refine Zk [3,4,5,6] (fun k:Nat=> [(10,.p (.int .i64 k)),(11,.p (.int .i64 (aA x r s k))),(12,.p (.int .i64 k))]) (fun _=> [Zh x,ZA r,Q3 s]) (fun k=>k<=r.visits.length/\BU x r s now=IW x r s now (r.visits.length-k) k) (fun k=>r.visits.length-k) 0 ⟨Zb,rfl⟩ (Weak.mk ?_) ?_
 ·simp (disch:=omega) only [Zh,ZA,Q3,go_sem,seval]
 ·rintro k ⟨hk,hfx⟩;simp (disch:=omega) only [Zh,ZA,Q3,go_sem,seval];refine cD ?_ ?_<;>intro h<;>simp (disch:=omega) only [Sh.out h,go_sem,seval,↓reduceIte]
  ·have hk2:k<r.visits.length:=Za
   obtain ⟨d,hd⟩: ∃d,r.visits.length-k=d+1:=⟨r.visits.length-k-1,Za⟩;rw [hd,IW] at hfx;refine cD ?_ ?_<;>intro h3<;>simp (disch:=omega) only [Sh.out h3,go_sem,seval,↓reduceIte]
   ·rw [if_pos h3] at hfx
    have hdn:BN x r s now=false:=by rw [BN,XK Za,UR]
    rw [hdn,hfx];exact we
   ·rw [if_neg h3,show d=r.visits.length-(k+1) by omega] at hfx;refine (Td x r s hf k hk2).use ?_;refine Zc ?_;exact ⟨k+1,⟨Za,hfx⟩,Za,Weak.mk (by simp (disch:=omega) only [aA,go_sem,seval])⟩
  ·have hkl:k=r.visits.length:=Za
   subst hkl;rw [Ay,IW] at hfx
   have hdn:BN x r s now=(decide (0<r.visits.length)&&decide (aA x r s r.visits.length<now)):=by simp_all [BN]
   rw [hfx];generalize BN x r s now=D at hdn;refine gT ?_ ?_<;>intro h4<;>simp (disch:=omega) only [Sh.out h4,go_sem,seval,↓reduceIte]
   ·rw [Yk (show 0<r.visits.length by omega),Wt] at hdn;exact we (by simp (disch:=omega) only [hdn,go_sem,seval])
   ·rw [XK (show ¬ 0<r.visits.length by omega),UR] at hdn;exact we (by simp (disch:=omega) only [hdn,go_sem,seval])
def GN (s:She):List Bool:=s.rest::s.times.map (·.rest)
theorem CM {s:She} :(GN s).length=s.times.length+1:=by simp [GN]
theorem aD (s:She) (hl:s.times.length<=1048576):PC 76 [.p (BR s)] (.list false ((GN s).map eB)):=by
 refine Zf [6] Tryz.func76 rfl Zi0 ?_;simp (disch:=omega) only [Tryz.f76,go_sem,seval];refine ZO [6] [1] (fun q:Nat×List Bool=> [(3,.sl 1 0 q.2.length q.2.length),(4,.p (.int .i64 q.1))]) (fun q=> [Q3 s,.elems 1 (q.2.map eB)]) (fun q=>q.1<=s.times.length/\q.2=(GN s).take (q.1+1)) (fun q=>s.times.length-q.1) (0,[s.rest]) ⟨Zb,by simp [GN]⟩ (Weak.mk ?_) ?_
 ·simp (disch:=omega) only [Q3,Zw,Zz,Zs,Zn,go_sem,seval]
 ·rintro ⟨k,m⟩ ⟨hk,hm⟩;simp only at hk hm
  have hml:m.length=k+1:=by grind [CM]
  simp (disch:=omega) only [Q3,go_sem,seval];refine ZI ?_ ?_<;>intro h
  ·have hk2:k<s.times.length:=Za
   have htk:m++ [(nth s.times k).rest]=(GN s).take (k+1+1):=by
    grind [Xl,GN,Zi]
   exact ⟨(k+1,m++ [(nth s.times k).rest]),⟨Za,htk⟩,Za,wk⟩
  ·have hkl:k=s.times.length:=Za
   subst hkl;rw [Eg (by rw [CM];omega)] at hm;subst hm;refine Zq (Weak.fz (o:=1) (by rfl)) (Zg [] _ _ _ _ (Vm ?_));exact we
def Bl (x:Inst) (now:Int) (r:Rte):Rte:=⟨r.typ,r.start,false,(GN (ZY x r)).take (BU x r (ZY x r) now+if BN x r (ZY x r) now=true then 1 else 0),false,r.visits.take (BU x r (ZY x r) now)⟩
def pfxL (x:Inst) (now:Int):Nat->List Rte->List Rte
 | 0,_=> []
 | k+1,l=>pfxL x now k l++if BU x (nth l k) (ZY x (nth l k)) now=0 then [] else [Bl x now (nth l k)]
theorem Cw {x:Inst} {now:Int} {l:List Rte} : ∀k,(pfxL x now k l).length<=k
 | 0=>by simp [pfxL]
 | k+1=>by
  have:=Cw (x:=x) (now:=now) (l:=l) k;rw [pfxL,ZG]
  split<;>simp<;>omega
def rX (x:Inst) (p:Pln) (now:Int):V:=if now<0\/4096<now then .tup [.p (.list true []),.p (.int .i64 2)] else if errR x p.routes=0 then .tup [.p (.list false ((pfxL x now p.routes.length p.routes).map Z0)),.p (.int .i64 0)] else .tup [.p (.list true []),.p (.int .i64 (errR x p.routes))]
theorem E9 {x:Inst} {r:Rte} (hx:InstOk x) (h:evalE x r=0) (hl:r.visits.length<=1048576):FixOk x r (ZY x r):=by
 have hs:=fL hx h;obtain ⟨ht,hsq,_⟩:=X3 (X7 h);have hr:=W4 hsq
 have hlen:(Xp x r.visits).length=r.visits.length:=by simp [Xp]
 refine ⟨ht,N0 hx,KF hx,hl,by rw [hs.len,hlen],fun i hi=>hr.inr _ (Zo hi),fun i hi=> ?_,fun i hi=> ?_⟩
 ·have:=(hs.seg i Za).1;omega
 ·have hin:=hr.inr _ (Zo hi);have ho:=hx.orders.2 (nth r.visits i).order.toNat Za;have h1:=ho.pstp;have h2:=ho.dstp;simp only [stpOk,Zp] at h1 h2
  grind [stopV]
theorem Lk (x:Inst) (p:Pln) (now:Int) (hx:InstOk x) (hr:p.routes.length<=1048576) (hb: ∀r∈p.routes,WH r) :
  ACalls Tryz.prog 32 [.p (ZE x),.p (Wh p),.p (.int .i64 now)] [] fun y H'=>y=rX x p now/\H'= []:=by
 obtain ⟨T,hT⟩: ∃T,T=rX x p now:=⟨_,rfl⟩;rw [<- hT];unfold rX at hT;refine Zf [4] Tryz.func32 rfl Ziz ?_;simp (disch:=omega) only [Tryz.f32,go_sem,seval];refine gF ?_ ?_<;>intro g0<;>simp (disch:=omega) only [Sh.out g0,go_sem,seval,↓reduceIte]
 ·rw [if_pos (.inl g0)] at hT;exact ⟨T,[],Weak.mk (by simp (disch:=omega) only [hT,go_sem,seval]),rfl,rfl⟩
 ·refine cD ?_ ?_<;>intro g1<;>simp (disch:=omega) only [Sh.out g1,go_sem,seval]
  ·rw [if_pos (.inr g1)] at hT;exact ⟨T,[],Weak.mk (by simp (disch:=omega) only [hT,go_sem,seval]),rfl,rfl⟩
  ·rw [if_neg (show ¬(now<0\/4096<now) by omega)] at hT;refine Zq (Weak.ofNil 8 4 (by simp (disch:=omega) only [go_sem,seval]) Zb (Weak.refl _ _ _)) ?_;refine Zg [21] _ _ _ _ (Zc ?_);refine ZO [15,21] [2,3,4] (fun q:Nat×List Rte=> [(8,.sl 2 0 q.2.length q.2.length),(9,.p (.int .i64 q.1))]) (fun q=> [Zh x,Zu p,.elems 4 (q.2.map Z0)]) (fun q=>q.1<=p.routes.length/\(∀j,j<q.1->evalE x (nth p.routes j)=0)/\q.2=pfxL x now q.1 p.routes) (fun q=>p.routes.length-q.1) (0,[]) ⟨Zb,Zb,rfl⟩ (Weak.mk ?_) ?_
   ·simp (disch:=omega) only [Zh,Zu,Zz,Zn,go_sem,seval]
   ·rintro ⟨k,m⟩ ⟨hk,hz,hm⟩;simp only at hk hz hm
    have hml:m.length<=k:=by grind [Cw]
    have hms:=hm;refine Wz ?_;refine cD ?_ ?_<;>intro h<;>simp (disch:=omega) only [Sh.out h,go_sem,seval,↓reduceIte]
    ·have hk2:k<p.routes.length:=Za
     obtain ⟨b1,b2⟩:=hb _ (Zo hk2);have ce:=Jo x (nth p.routes k) hx b1 b2;unfold Ko at ce;refine Gi ce (Zc ?_);refine cD ?_ ?_<;>intro h2<;>simp (disch:=omega) only [Sh.out h2,go_sem,seval,↓reduceIte]
     ·have her:=D5 hk2 hz h2;rw [if_neg Za,her] at hT;exact ⟨T,[],Weak.mk (by simp (disch:=omega) only [hT,go_sem,seval]),rfl,rfl⟩
     ·have hz0:evalE x (nth p.routes k)=0:=Za
      obtain ⟨hty,hsq,hst⟩:=X3 (X7 hz0);have hfx:=E9 hx hz0 b1;obtain ⟨t1,_⟩:=U0 hx (show (nth p.routes k).typ.toNat<x.types.length by omega)
      have hsn:pfxL x now (k+1) p.routes=m++if BU x (nth p.routes k) (ZY x (nth p.routes k)) now=0 then [] else [Bl x now (nth p.routes k)]:=by rw [pfxL,hm]
      have hnl:=Rs (x:=x) (r:=nth p.routes k) (s:=ZY x (nth p.routes k)) (now:=now);have hrl:=CM (s:=ZY x (nth p.routes k));rw [hfx.len] at hrl;refine W1 (Tg x (nth p.routes k) (ZY x (nth p.routes k)) now hfx ⟨t1.1,Av t1.2.1 t1.2.2⟩ Za) (Zc ?_);refine ZI ?_ ?_<;>intro h3
      ·rw [if_pos Za,Vw] at hsn;exact ⟨(k+1,m),⟨Za,Zm.2 ⟨hz,hz0⟩,hsn.symm⟩,Za,wk⟩
      ·rw [if_neg Za] at hsn;refine (aD (ZY x (nth p.routes k)) (by rw [hfx.len];omega)).use (Zc ?_);obtain ⟨K,hK⟩: ∃K:Nat,K=BU x (nth p.routes k) (ZY x (nth p.routes k)) now+if BN x (nth p.routes k) (ZY x (nth p.routes k)) now=true then 1 else 0:=⟨_,rfl⟩
       have hpf:Bl x now (nth p.routes k)=⟨(nth p.routes k).typ,(nth p.routes k).start,false,(GN (ZY x (nth p.routes k))).take K,false,(nth p.routes k).visits.take (BU x (nth p.routes k) (ZY x (nth p.routes k)) now)⟩:=by rw [Bl,<- hK]
       have hKl:K<=(nth p.routes k).visits.length+1:=by grind
       generalize BU x (nth p.routes k) (ZY x (nth p.routes k)) now=N at hnl h3 hK hpf hsn ⊢;refine ZD [2,3,4,8,9,10,14,16] (fun _:Unit=> [(17,.p (.int .i64 K))]) (fun _=> [Zh x,Zu p,.elems 4 (m.map Z0),ZA (nth p.routes k),Q3 (ZY x (nth p.routes k)),F1 (XG x (nth p.routes k))]) (fun _=>True) ?_ ?_
       ·cases hd:BN x (nth p.routes k) (ZY x (nth p.routes k)) now with
        | true =>
         rw [if_pos hd] at hK;refine Zc ?_;exact ⟨(),Weak.mk (by simp (disch:=omega) only [Zh,Zu,ZA,Q3,F1,hK,go_sem,seval])⟩
        | false =>
         rw [if_neg (by rw [hd];simp)] at hK;refine Zc ?_;exact ⟨(),Weak.mk (by simp (disch:=omega) only [Zh,Zu,ZA,Q3,F1,hK,go_sem,seval])⟩
       ·intro _ _;refine Zg [19,21] _ _ _ _ ?_;simp (disch:=omega) only [Zh,Zu,ZA,Q3,F1,go_sem,seval]
        have q1:((GN (ZY x (nth p.routes k))).take K).length=K:=by grind
        have q2:((nth p.routes k).visits.take N).length=N:=by grind
        refine ZV 5 mixed Ze Ze ?_;refine Zc ?_;rw [if_pos ⟨Za,Za⟩];refine Zc ?_;refine ZD [2,3,4,8,9,18] (fun _:Unit=> []) (fun _=> [Zh x,Zu p,.elems 4 (m.map Z0),ZA (nth p.routes k),Q3 (ZY x (nth p.routes k)),F1 (XG x (nth p.routes k)),ZA (Bl x now (nth p.routes k)),.dead,.dead]) (fun _=>True) ?_ ?_
        ·refine Zc ?_;refine ZV 6 mixed Ze Ze ?_;refine Zc ?_;rw [if_pos ⟨Za,Za⟩];refine Zc ?_;exact ⟨(),(Weak.fz (o:=7) (by rfl)).trans ((Weak.fz (o:=8) (by rfl)).trans (Weak.mk (by simp (disch:=omega) only [Zh,Zu,ZA,Q3,F1,hpf,q1,q2,eq_self,ZK,Zs,Zn,XE,Xe,go_sem,seval,↓reduceIte])))⟩
        ·intro _ _;refine Zg [21] _ _ _ _ ?_;simp (disch:=omega) only [Zh,Zu,ZA,Q3,F1,go_sem,seval];exact ⟨(k+1,m++ [Bl x now (nth p.routes k)]),⟨Za,Zm.2 ⟨hz,hz0⟩,hsn.symm⟩,Za,wk⟩
    ·have hkl:k=p.routes.length:=Za
     subst hkl;rw [if_pos (D6 hz),<- hm] at hT;refine Zq (Weak.fz (o:=2) (by rfl)) (Zg [] _ _ _ _ (Vm ?_));exact ⟨T,[],Weak.mk (by simp (disch:=omega) only [hT,go_sem,seval]),rfl,rfl⟩
theorem Mz {x:Inst} {l:List Rte} :errR x l=0↔ ∀r∈l,evalE x r=0:=by
 induction l with
 | nil=>simp [errR]
 | cons r l ih =>
  rw [errR]
  grind
def TJ (x:Inst):Nat:=VH (fun i=> !(nth x.orders i).off) x.orders.length
theorem EI (x:Inst) (hn:x.orders.length<=60):PC 56 [.p (ZE x)] (.int .i64 (TJ x:Nat)):=by
 refine Zd Tryz.func56 rfl ZiI ?_;simp (disch:=omega) only [Tryz.f56,go_sem,seval];refine Zk [1] (fun k:Nat=> [(3,.p (.int .i64 (VH (fun i=> !(nth x.orders i).off) k:Nat))),(4,.p (.int .i64 (pw k:Nat))),(5,.p (.int .i64 (k:Int)))]) (fun _=> [Zh x]) (fun k=>k<=x.orders.length) (fun k=>x.orders.length-k) 0 Zb (Weak.mk ?_) ?_
 ·simp (disch:=omega) only [VH,Zh,show pw 0=1 from rfl,go_sem,seval]
 ·intro k hk;have hsl:=CK (fun i=> !(nth x.orders i).off) k;have hsi:pw k<=pw 60:=DN Za;have e60:pw 60=1152921504606846976:=rfl
  have hps:((pw (k+1):Nat):Int)=(pw k:Int)*2:=by rfl
  refine VI ?_;refine gT ?_ ?_<;>intro h1<;>simp (disch:=omega) only [Sh.out h1,go_sem,seval,↓reduceIte]
  ·have hk2:k<x.orders.length:=Za
   have q2:(k:Int)<63:=Za
   simp (disch:=omega) only [q2,go_sem,seval]
   cases ho:(nth x.orders k).off with
   | true =>
    have he:VH (fun i=> !(nth x.orders i).off) (k+1)=VH (fun i=> !(nth x.orders i).off) k:=by simp [VH,ho]
    refine Zc ?_;exact ⟨k+1,Za,Za,Weak.mk (by simp (disch:=omega) only [he,hps,go_sem,seval])⟩
   | false =>
    have he:((VH (fun i=> !(nth x.orders i).off) (k+1):Nat):Int)=(VH (fun i=> !(nth x.orders i).off) k:Int)+(pw k:Int):=by simp [VH,ho]
    refine Zc ?_;exact ⟨k+1,Za,Za,Weak.mk (by simp (disch:=omega) only [he,hps,go_sem,seval])⟩
  ·have:k=x.orders.length:=Za
   subst this
   rfl
theorem HJ (p:Pln) (hp:p.wf 1048576):PC 27 [.p (Wh p)] (.bool (smB p)):=by
 obtain ⟨w1,w2,w3,w4⟩:=hp;refine Zd Tryz.func27 rfl Ziu ?_;simp (disch:=omega) only [Tryz.f27,go_sem,seval];refine gF ?_ ?_<;>intro h2<;>simp (disch:=omega) only [Sh.out h2,go_sem,seval,↓reduceIte]
 ·grind [smB]
 ·refine cD ?_ ?_<;>intro h3<;>simp (disch:=omega) only [Sh.out h3,go_sem,seval]
  ·have:smB p=false:=by rw [smB,XK (p:=p.unserved.length<=6) Za,Jx];rfl
   rw [this]
  ·refine Zk [1] (fun q:Nat=> [(3,.p (.int .i64 q))]) (fun _=> [Zu p]) (fun q=>q<=p.routes.length/\ ∀j,j<q->rtB (nth p.routes j)=true) (fun q=>p.routes.length-q) 0 Zb (Weak.mk ?_) ?_
   ·simp (disch:=omega) only [Zu,go_sem,seval]
   ·rintro q ⟨hq,hin⟩;refine JV ?_;refine cD ?_ ?_<;>intro h4<;>simp (disch:=omega) only [Sh.out h4,go_sem,seval,↓reduceIte]
    ·have hq2:q<p.routes.length:=Za
     obtain ⟨_,_,u1,_,u2,_⟩:=w2 _ (Zo hq2);have hb2:=ZdB hq2;refine gF ?_ ?_<;>intro h5<;>simp (disch:=omega) only [Sh.out h5,go_sem,seval,↓reduceIte]
     ·grind [rtB]
     ·refine ZI ?_ ?_<;>intro h6
      ·rw [hb2 (by rw [rtB,XK (p:=(nth p.routes q).rests.length<=9) Za,Jx])]
      ·exact ⟨q+1,⟨Za,Zm.2 ⟨hin,by rw [rtB,Zy,Zp,Zp];omega⟩⟩,Za,wk⟩
    ·have hql:q=p.routes.length:=Za
     subst hql
     have hgood:smB p=true:=by
      rw [smB,Znp hin,US,Zy,Zp,Zp];omega
     rw [hgood]
structure BegOk (y:Inst) (r:Rte):Prop where
 ord:(ordR r.visits).2=0
 sub: ∀j,(ordS r.visits).testBit j=true->j<y.orders.length/\(nth y.orders j).off=false
 typ:r.typ<(y.types.length:Int)
structure DayOk48 (c:Cas) (l:List Rte):Prop where
 x:FitP c.x 3
 y:FitP c.y 3
 sm:smB c.p=true
 now:0<=c.now/\c.now<=4096
 chk:chkP c.x c.p=0
 err:errR c.x c.p.routes=0
 eq:l=pfxL c.x c.now c.p.routes.length c.p.routes
 beg: ∀r∈l,BegOk c.y r
theorem Lu {p:Pln} (h:smB p=true):p.routes.length<=4/\p.unserved.length<=6/\ ∀r∈p.routes,r.visits.length<=8/\r.rests.length<=9:=by
 simp_all [smB,rtB]
theorem FF {x:Inst} {now:Int} {l:List Rte} {b:Rte} : ∀k,k<=l.length->b∈pfxL x now k l-> ∃r∈l,b=Bl x now r/\BU x r (ZY x r) now≠0
 | 0,_,h=>by simp [pfxL] at h
 | k+1,hk,h=>by
  rw [pfxL,Xo] at h;rcases h with h | h
  ·exact FF k Za h
  ·split at h
   ·simp at h
   ·rename_i hn;exact ⟨nth l k,Zo Za,by simpa using h,hn⟩
theorem Nr {x:Inst} {now:Int} {r:Rte} (hs:(ZY x r).times.length=r.visits.length):(Bl x now r).visits.length<=r.visits.length/\(Bl x now r).rests.length<=r.visits.length+1:=by
 grind [CM,Bl]
def C1 (c:Cas):AM.Obj:= .cells ((DR c).map .p)
theorem pP (c:Cas) (hw:c.wf 1048576) :
  ACalls Tryz.prog 20 [.p (pT c)] [] fun y H'=> ∃(b fl:Bool) (l:List Rte),(l.length<=8/\ ∀r∈l,WH r)/\(b=true->DayOk48 c l)/\y= .tup [.p (.list fl (l.map Z0)),.p (.bool b)]/\H'= []:=by
 obtain ⟨hwx,hwp,hwn,hwy⟩:=hw;have hP:=hwp;obtain ⟨p1,p2,p3,p4⟩:=hP;have fail: ∃(b fl:Bool) (l:List Rte),(l.length<=8/\ ∀r∈l,WH r)/\(b=true->DayOk48 c l)/\(V.tup [.p (.list true []),.p (.bool false)])= .tup [.p (.list fl (l.map Z0)),.p (.bool b)]/\([]:List AM.Obj)= []:=⟨false,true,[],⟨Zb,fun r h=>by simp at h⟩,(fun h=>Bool.noConfusion h),rfl,rfl⟩;obtain ⟨b1,hb1⟩: ∃b:Bool,b=true↔FitP c.x 3:=⟨@decide _ (Classical.propDecidable _),@decide_eq_true_iff _ (Classical.propDecidable _)⟩;obtain ⟨b2,hb2⟩: ∃b:Bool,b=true↔FitP c.y 3:=⟨@decide _ (Classical.propDecidable _),@decide_eq_true_iff _ (Classical.propDecidable _)⟩
 refine Zf [] Tryz.func20 rfl Ziq ?_;simp (disch:=omega) only [Tryz.f20,go_sem,seval];refine (Hg c.x hwx 3 b1 hb1).use (Zc ?_)
 cases b1 with
 | false =>
  refine KT ?_;exact ⟨.tup [.p (.list true []),.p (.bool false)],[],wk,fail⟩
 | true =>
  refine J7 ?_;refine (Hg c.y hwy 3 b2 hb2).use (Zc ?_)
  cases b2 with
  | false =>
   refine KT ?_;exact ⟨.tup [.p (.list true []),.p (.bool false)],[],wk,fail⟩
  | true =>
   refine J7 ?_;have fx:=hb1.1 rfl;have fy:=hb2.1 rfl;refine (HJ c.p hwp).use (Zc ?_)
   cases hs:smB c.p with
   | false =>
    refine KT ?_;exact ⟨.tup [.p (.list true []),.p (.bool false)],[],wk,fail⟩
   | true =>
    refine J7 ?_;obtain ⟨s1,s2,s3⟩:=Lu hs;have hx:=fx.2.2.2.2.2.2;have hy:=fy.2.2.2.2.2.2;have hR: ∀r∈c.p.routes,WH r:=fun r h=>⟨(p2 r h).2.2.2.2.1,(p2 r h).2.2.1⟩;refine gF ?_ ?_<;>intro h1<;>simp (disch:=omega) only [Sh.out h1,go_sem,seval,↓reduceIte]
    ·exact ⟨.tup [.p (.list true []),.p (.bool false)],[],wk,fail⟩
    ·refine gF ?_ ?_<;>intro h2<;>simp (disch:=omega) only [Sh.out h2,go_sem,seval,↓reduceIte]
     ·exact ⟨.tup [.p (.list true []),.p (.bool false)],[],wk,fail⟩
     ·refine (IL c.x c.p hx p1 p3 hR).use (Zc ?_);refine cD ?_ ?_<;>intro h3<;>simp (disch:=omega) only [Sh.out h3,go_sem,seval,↓reduceIte]
      ·exact ⟨.tup [.p (.list true []),.p (.bool false)],[],wk,fail⟩
      ·have cp:=Lk c.x c.p c.now hx p1 hR;rw [rX,if_neg (show ¬(c.now<0\/4096<c.now) by omega)] at cp
       by_cases he:errR c.x c.p.routes=0
       ·rw [if_pos he] at cp;have hll:=Cw (x:=c.x) (now:=c.now) (l:=c.p.routes) c.p.routes.length
        have hLr: ∀b∈pfxL c.x c.now c.p.routes.length c.p.routes,WH b:=fun b h=>by
         obtain ⟨r,hr,rfl,_⟩:=FF _ (Zv _) h;have h0:=Mz.1 he r hr;have hs:=(E9 hx h0 (hR r hr).1).len;have:=Nr (x:=c.x) (now:=c.now) hs;have:=(s3 r hr).1;exact ⟨Za,Za⟩
        obtain ⟨L,hL⟩: ∃L,L=pfxL c.x c.now c.p.routes.length c.p.routes:=⟨_,rfl⟩;rw [<- hL] at cp hll hLr;refine W1 cp (Zc ?_);refine Zk [1,4] (fun k:Nat=> [(6,.p (.int .i64 k))]) (fun _=> [C1 c]) (fun k=>k<=L.length/\ ∀j,j<k->BegOk c.y (nth L j)) (fun k=>L.length-k) 0 Zb (Weak.mk ?_) ?_
        ·simp (disch:=omega) only [C1,DR,Zs,Zn,go_sem,seval]
        ·rintro k ⟨hk,hno⟩;simp (disch:=omega) only [C1,DR,Zs,Zn,go_sem,seval];refine cD ?_ ?_<;>intro h4<;>simp (disch:=omega) only [Sh.out h4,go_sem,seval,↓reduceIte]
         ·have hk2:k<L.length:=Za
          have hrk:=hLr _ (Zo hk2);refine W1 (Ds (nth L k) hrk.1) (Zc ?_)
          by_cases g1:(ordR (nth L k).visits).2=0
          ·have X8:(nth L k).visits.all DI=true:=by
            grind [ordR]
           have ho:(ordR (nth L k).visits).1=((ordS (nth L k).visits:Nat):Int):=by rw [ordR,if_pos X8]
           have hlt:=Qi (nth L k).visits.length (l:=(nth L k).visits) (Zv _) (fun v hv=>Zt.1 X8 v (by grind));rw [Xi] at hlt
           have hnl:TJ c.y<9223372036854775808:=by
            have h1:=CK (fun i=> !(nth c.y.orders i).off) c.y.orders.length;have h2:pw c.y.orders.length<=pw 10:=DN (KF hy);have h3:pw 10=1024:=rfl;unfold TJ;omega
           by_cases g2:((fB (ordS (nth L k).visits) (TJ c.y):Nat):Int)=0
           ·by_cases g3:(c.y.types.length:Int)<=(nth L k).typ
            ·refine Xr ?_;simp (disch:=omega) only [g1,ho,go_sem,seval];refine Zr (EI c.y (by grind [KF])) (Zc ?_);simp (disch:=omega) only [g2,g3,go_sem,seval];exact ⟨.tup [.p (.list true []),.p (.bool false)],[],wk,fail⟩
            ·refine Xr ?_;simp (disch:=omega) only [g1,ho,go_sem,seval];refine Zr (EI c.y (by grind [KF])) (Zc ?_);simp (disch:=omega) only [g2,g3,go_sem,seval];refine ⟨k+1,⟨Za,Zm.2 ⟨hno,g1,fun j hj=> ?_,Za⟩⟩,Za,wk⟩
             have hz:fB (ordS (nth L k).visits) (TJ c.y)=0:=Za
             have hb:=Mu.1 hz j hj
             simp_all [TJ,Dx]
           ·refine Xr ?_;simp (disch:=omega) only [g1,ho,go_sem,seval];refine Zr (EI c.y (by grind [KF])) (Zc ?_);simp (disch:=omega) only [g2,go_sem,seval];exact ⟨.tup [.p (.list true []),.p (.bool false)],[],wk,fail⟩
          ·refine Xr ?_;simp (disch:=omega) only [g1,go_sem,seval];exact ⟨.tup [.p (.list true []),.p (.bool false)],[],wk,fail⟩
         ·have hkl:k=L.length:=Za
          subst hkl;refine ⟨.tup [.p (.list false (L.map Z0)),.p (.bool true)],[],wk,true,false,L,⟨Za,hLr⟩,fun _=>⟨fx,fy,hs,Za,Za,he,hL,fun r hr=> ?_⟩,rfl,rfl⟩;obtain ⟨j,hj,rfl⟩:=ZU.1 hr
          grind [Zi]
       ·rw [if_neg he] at cp;refine W1 cp (Zc ?_);refine cD ?_ ?_<;>intro h5<;>simp (disch:=omega) only [Sh.out h5,go_sem,seval]
        ·exact ⟨.tup [.p (.list true []),.p (.bool false)],[],wk,fail⟩
        ·omega
theorem ZdM {g:FuncId} {args:List V} {A:List Rte->Prop} {B:Bool->List Rte->Prop} {H:List AM.Obj} {K:V->List AM.Obj->Prop} (h:ACalls Tryz.prog g args [] fun y H'=> ∃(b fl:Bool) (l:List Rte),A l/\B b l/\y= .tup [.p (.list fl (l.map Z0)),.p (.bool b)]/\H'= [])
  (k: ∀b fl l,A l->B b l->K (.tup [.p (.list fl (l.map Z0)),.p (.bool b)]) H) (ha:Z9 0 args=true:=by rfl):ACalls Tryz.prog g args H K :=
 (h.behind ha H).mono fun x H' hq=>by
  obtain ⟨y,H1,⟨b,fl,l,h1,h2,rfl,rfl⟩,rfl,rfl⟩:=hq
  grind [AM.shV,AM.shVs]
theorem aT (x:Inst) (p:Pln) (hx:InstOk x) (hr:p.routes.length<=1048576) (hu:p.unserved.length<=1048576) (hb: ∀r∈p.routes,WH r) :
  PT 17 [.p (ZE x),.p (Wh p)] [.p (AQ (Uy x p)),.p (.int .i64 (chkP x p))]:=by
 have hn:=KF hx;refine Zf [8] Tryz.func17 rfl Zio ?_;simp (disch:=omega) only [Tryz.f17,go_sem,seval];refine (IL x p hx hr hu hb).use (Zc ?_);refine cD ?_ ?_<;>intro h0<;>simp (disch:=omega) only [Sh.out h0,go_sem,seval,↓reduceIte]
 ·have e:Uy x p=zSco:=by rw [Uy,if_neg h0]
  rw [e];exact we (by simp (disch:=omega) only [zSco,go_sem,seval])
 ·have h0':chkP x p=0:=Za
  obtain ⟨z1,z2⟩:=VN h0';have r1:=Ga (l:=p.routes) hx hb z1;refine ZO [8] [2,3,4,7] (fun k:Nat=> [(8,.p (.int .i64 k))]) (fun k=> [Zh x,Zu p,Ux 0 0 0 0,BE (WA x (p.routes.take k))]) (fun k=>k<=p.routes.length) (fun k=>p.routes.length-k) 0 Zb (Weak.mk ?_) ?_
  ·simp (disch:=omega) only [Zh,Zu,Ux,BE,WA,zSco,Ya,VW,go_sem,seval]
  ·intro k hk;simp (disch:=omega) only [Zh,Zu,Ux,BE,go_sem,seval];refine cD ?_ ?_<;>intro h1<;>simp (disch:=omega) only [Sh.out h1,go_sem,seval,↓reduceIte]
   ·have hk2:k<p.routes.length:=Za
    have hm:=ZF hk2;obtain ⟨b1,b2⟩:=hb _ hm;have ce:=Jo x (nth p.routes k) hx b1 b2;unfold Ko at ce;rw [z1 _ hm] at ce;have q1:=r1 k Za;have q2:=C4 hx b1 (z1 _ hm);have hsu:=HV (x:=x) hk2;refine ZD [2,3,4,7,8] (fun _:Unit=> []) (fun _=> [Zh x,Zu p,Ux 0 0 0 0,BE (WA x (p.routes.take (k+1)))]) (fun _=>True) ?_ ?_
    ·refine Zc ?_;refine XI [11,12,13,14] 15 mixed Ze Ze Ze Zb (Zc ?_);refine E2 ce (Zc ?_);refine QT 11 12 _ _ _ _ Ze (by refine Zc ?_;exact ⟨rfl,rfl⟩) (by refine Zc ?_;exact ⟨rfl,rfl⟩) ?_ ?_
     ·refine ZL 12 _ _ Ze (by refine Zc ?_;exact ⟨rfl,rfl⟩) (ZL 13 _ _ Ze (by refine Zc ?_;exact ⟨rfl,rfl⟩) (ZL 14 _ _ Ze (by refine Zc ?_;exact ⟨rfl,rfl⟩) (Yo ?_)));refine Zc ?_;refine (Ih (WA x (p.routes.take k)) (XG x (nth p.routes k)) (YT Za q1) (YT Za q2)).use (Zc ?_);exact ⟨(),Weak.mk (by simp (disch:=omega) only [Zh,Zu,Ux,BE,hsu,go_sem,seval])⟩
     ·refine ZL 11 _ _ Ze (by refine Zc ?_;exact ⟨rfl,rfl⟩) (ZL 13 _ _ Ze (by refine Zc ?_;exact ⟨rfl,rfl⟩) (ZL 14 _ _ Ze (by refine Zc ?_;exact ⟨rfl,rfl⟩) (Yo ?_)));refine Zc ?_;refine (Ih (WA x (p.routes.take k)) (XG x (nth p.routes k)) (YT Za q1) (YT Za q2)).use (Zc ?_);exact ⟨(),Weak.mk (by simp (disch:=omega) only [Zh,Zu,Ux,BE,hsu,go_sem,seval])⟩
    ·intro _ _;refine Zg [8] _ _ _ _ ?_;simp (disch:=omega) only [Zh,Zu,Ux,BE,go_sem,seval];exact ⟨k+1,Za,Za,wk⟩
   ·have hkl:k=p.routes.length:=Za
    subst hkl;have rr:=r1 _ (Zv _)
    rw [Xi] at *
    have r2:=Gb (l:=p.unserved) hx rr
    have ee:Uy x p=Ke x (WA x p.routes) p.unserved:=by rw [Uy,if_pos h0']
    rw [ee];refine ZO [8] [2,3,4,7] (fun k:Nat=> [(12,.p (.int .i64 k))]) (fun k=> [Zh x,Zu p,Ux 0 0 0 0,BE (Ke x (WA x p.routes) (p.unserved.take k))]) (fun k=>k<=p.unserved.length) (fun k=>p.unserved.length-k) 0 Zb (Weak.mk ?_) ?_
    ·simp (disch:=omega) only [Zh,Zu,Ux,BE,Ke,Ya,VW,go_sem,seval]
    ·intro k hk;simp (disch:=omega) only [Zh,Zu,Ux,BE,go_sem,seval];refine cD ?_ ?_<;>intro h2<;>simp (disch:=omega) only [Sh.out h2,go_sem,seval,↓reduceIte]
     ·have hk2:k<p.unserved.length:=Za
      have hm:=ZF hk2;have ce:=LA x (nth p.unserved k) Za;rw [z2 _ hm] at ce;refine XI [10,11] 12 mixed Ze Ze Ze Zb (Zc ?_);refine Ac ce (Zc ?_);refine ZL 10 _ _ Ze (by refine Zc ?_;exact ⟨rfl,rfl⟩) (ZL 11 _ _ Ze (by refine Zc ?_;exact ⟨rfl,rfl⟩) (Yo ?_));refine Zc ?_;have q1:=r2 k Za;have q2:=Gg hx (nth p.unserved k);have hsu:=HW (x:=x) (s:=WA x p.routes) hk2;refine (Ih (Ke x (WA x p.routes) (p.unserved.take k)) (XQ x (nth p.unserved k)).1 (YT Za q1) (YT Za q2)).use ?_
      refine Zc ?_;exact ⟨k+1,Za,Za,Weak.mk (by simp (disch:=omega) only [hsu,go_sem,seval])⟩
     ·have hkl:k=p.unserved.length:=Za
      subst hkl;rw [Xi];exact we (by simp (disch:=omega) only [h0',go_sem,seval])
theorem T1 (x:Inst) (p:Pln) (hx:InstOk x) (hr:p.routes.length<=1048576) (hu:p.unserved.length<=1048576) (hb: ∀r∈p.routes,WH r) :
  PT 31 [.p (ZE x),.p (Wh p)] [.p (.int .i64 (Nt x p).1),.p (.int .i64 (Nt x p).2)]:=by
 refine Zf [] Tryz.func31 rfl Ziy ?_;simp (disch:=omega) only [Tryz.f31,go_sem,seval];refine W1 (aT x p hx hr hu hb) (Zc ?_);refine cD ?_ ?_<;>intro h0<;>simp (disch:=omega) only [Sh.out h0,go_sem,seval,↓reduceIte]
 ·have e:Nt x p=(0,chkP x p):=by rw [Nt,if_neg h0]
  rw [e];exact we
 ·have h0':chkP x p=0:=Za
  have e:Nt x p=Xn (Uy x p):=by rw [Nt,if_pos h0']
  rw [e];refine W1 (PK (Uy x p) (lV hx hr hu hb)) (Zc ?_);exact we
structure St where
 ix:Int
 cov:Int
 used:List Int
 deriving Inhabited,DecidableEq
def AR (s:St):PV:= .agg (.int .i64 s.ix:: .int .i64 s.cov::s.used.map eI)
@[go_sem] theorem Znw (s:St):AR s= .agg (.int .i64 s.ix:: .int .i64 s.cov::s.used.map eI):=Zl rfl rfl
def StR (s:St):Prop:=s.used.length=6
theorem six {l:List Int} (h:l.length=6): ∃a b c d e f,l= [a,b,c,d,e,f]:=by
 match l,h with
 | [a,b,c,d,e,f],_=>simp
theorem YK {s:St} (h:StR s): ∃i v a b c d e f,s=⟨i,v,[a,b,c,d,e,f]⟩:=by
 obtain ⟨i,v,u⟩:=s;obtain ⟨a,b,c,d,e,f,rfl⟩:=six h;simp
theorem O0 : KeyE Tryz.prog 204 AR StR:=by
 refine ⟨⟨151,3,Ze,Ze,fun s hs=> ?_,fun s t hs ht=> ?_⟩,fun s t hs ht=> ?_⟩
 ·obtain ⟨i,v,a,b,c,d,e,f,rfl⟩:=YK hs
  kernel_rfl
 ·obtain ⟨i,v,a,b,c,d,e,f,rfl⟩:=YK hs;obtain ⟨i',v',a',b',c',d',e',f',rfl⟩:=YK ht
  have h1:Ue Tryz.prog 9 151 (AR ⟨i,v,[a,b,c,d,e,f]⟩) (AR ⟨i',v',[a',b',c',d',e',f']⟩)=some (decide (i=i')&&(decide (v=v')&&((decide (a=a')&&(decide (b=b')&&(decide (c=c')&&(decide (d=d')&&(decide (e=e')&&(decide (f=f')&&true))))))&&true))):=Ze
  have h2:keq (AR ⟨i,v,[a,b,c,d,e,f]⟩) (AR ⟨i',v',[a',b',c',d',e',f']⟩)=(decide (i=i')&&(decide (v=v')&&((decide (a=a')&&(decide (b=b')&&(decide (c=c')&&(decide (d=d')&&(decide (e=e')&&(decide (f=f')&&true))))))&&true))):=by
   simp_all [keq,AR,QY,eI]
  show (Ue Tryz.prog 9 151 (AR ⟨i,v,[a,b,c,d,e,f]⟩) (AR ⟨i',v',[a',b',c',d',e',f']⟩)==some (keq (AR ⟨i,v,[a,b,c,d,e,f]⟩) (AR ⟨i',v',[a',b',c',d',e',f']⟩)))=true
  simp_all
 ·obtain ⟨i,v,a,b,c,d,e,f,rfl⟩:=YK hs;obtain ⟨i',v',a',b',c',d',e',f',rfl⟩:=YK ht
  simp_all [keq,AR,QY,eI]
structure Kd where
 typ:Int
 set:Int
 deriving Inhabited,DecidableEq
def bS (k:Kd):PV:= .agg [.int .i64 k.typ,.int .i64 k.set]
theorem iK : KeyE Tryz.prog 265 bS fun _=>True:=by
 refine ⟨⟨267,3,Ze,Ze,fun s _=> ?_,fun s t _ _=> ?_⟩,fun s t _ _=> ?_⟩
 ·kernel_rfl
 ·obtain ⟨a,b⟩:=s;obtain ⟨c,d⟩:=t
  have h1:Ue Tryz.prog 9 267 (bS ⟨a,b⟩) (bS ⟨c,d⟩)=some (decide (a=c)&&(decide (b=d)&&true)):=Ze
  have h2:keq (bS ⟨a,b⟩) (bS ⟨c,d⟩)=(decide (a=c)&&(decide (b=d)&&true)):=by
   grind [keq,bS,QY]
  show (Ue Tryz.prog 9 267 (bS ⟨a,b⟩) (bS ⟨c,d⟩)==some (keq (bS ⟨a,b⟩) (bS ⟨c,d⟩)))=true
  simp_all
 ·obtain ⟨a,b⟩:=s;obtain ⟨c,d⟩:=t;simp [keq,bS,QY]
def Bp (n:Nat) (m cov:Int):Nat->Nat->Nat
 | 0,k=>k
 | f+1,k=>if k<n/\(sHas m k=false\/sHas cov k=true) then Bp n m cov f (k+1) else k
theorem Dw {n:Nat} {m cov:Int} {k:Nat} (h: ¬(k<n/\(sHas m k=false\/sHas cov k=true))) (f:Nat):Bp n m cov f k=k:=by
 cases f with
 | zero=>rfl
 | succ f=>rw [Bp,if_neg h]
theorem Ew {n:Nat} {m cov:Int} {k:Nat} (h:k<n) (hc:sHas m k=false\/sHas cov k=true):Bp n m cov (n-k) k=Bp n m cov (n-(k+1)) (k+1):=by
 rw [show n-k=(n-(k+1))+1 by omega,Bp,if_pos ⟨h,hc⟩]
def Vp (n:Nat) (m:Int) (s:St):St:= { s with ix:=(Bp n m s.cov (n-s.ix.toNat) s.ix.toNat:Nat) }
def VF (x:Inst) (f g:PV) (m:Int):AM.Obj:= .cells [.p (.list x.net.places_c (x.net.places.map eS)),.p (.list x.net.arcs_c (x.net.arcs.map WV)),.p (.list x.types_c (x.types.map WW)),.p (.list x.orders_c (x.orders.map eOrd)),.p (.list x.apart_c (x.apart.map eP)),.p (.list x.before_c (x.before.map eP)),.p f,.p g,.mp 0,.p (.int .i64 m)]
def YW (x:Inst) (f g:PV) (m:Int) (l:List (St×Int)):List AM.Obj:= [.map (l.map (Mx AR)),VF x f g m]
def Br (s:St):AM.Obj:= .cells (.p (.int .i64 s.ix):: .p (.int .i64 s.cov)::(s.used.map eI).map .p)
theorem F3 (x:Inst) (f g:PV) (m:Int) (l:List (St×Int)) (s:St) (hs:StR s) (h0:0<=s.ix) (hn:x.orders.length<=10) (h1:s.ix<=10) :
  ACalls Tryz.prog 100 [.ptr 1 0,.p (AR s)] (YW x f g m l) fun y H'=>y= .p (AR (Vp x.orders.length m s))/\H'=YW x f g m l:=by
 obtain ⟨i,v,a,b,c,d,e,u,rfl⟩:=YK hs;obtain ⟨i,rfl⟩: ∃k:Nat,i=k:=⟨i.toNat,by grind⟩;simp only at h0 h1;generalize hT:AR (Vp x.orders.length m ⟨i,v,[a,b,c,d,e,u]⟩)=T;refine Zf [] Tryz.func100 rfl Zae ?_;simp (disch:=omega) only [Tryz.f100,YW,VF,Zs,Zn,go_sem,seval];refine Zk [0,3,4] (fun k:Nat=> []) (fun k=>YW x f g m l++ [Br ⟨k,v,[a,b,c,d,e,u]⟩,.cells (List.replicate 8 (.p (.int .i64 0)))]) (fun k=>k<=10/\Bp x.orders.length m v (x.orders.length-k) k=Bp x.orders.length m v (x.orders.length-i) i) (fun k=>x.orders.length-k) i ⟨Za,rfl⟩ (Weak.mk ?_) ?_
 ·simp (disch:=omega) only [YW,VF,Br,Zs,Zn,List.replicate,go_sem,seval,↓reduceIte]
 ·rintro k ⟨hk,hq⟩
  have fin: ∀q:Nat,q=Bp x.orders.length m v (x.orders.length-i) i->AR ⟨q,v,[a,b,c,d,e,u]⟩=T:=fun q hq=>by grind [Vp]
  simp (disch:=omega) only [YW,VF,Br,Zs,Zn,List.replicate,go_sem,seval];refine Xr (Zc ?_);refine gT ?_ ?_<;>intro h5<;>simp (disch:=omega) only [Sh.out h5,go_sem,seval,↓reduceIte]
  ·have hk2:k<x.orders.length:=Za
   refine Zr (gW m k) (Zc ?_)
   cases hm:sHas m k with
   | false =>
    refine KT ?_;exact ⟨k+1,⟨Za,by grind [Ew]⟩,Za,wk⟩
   | true =>
    refine J7 ?_;refine Zr (gW v k) (Zc ?_)
    cases hv:sHas v k with
    | true =>
     refine Zc ?_;exact ⟨k+1,⟨Za,by grind [Ew]⟩,Za,wk⟩
    | false =>
     refine Zc ?_;exact ⟨.p (AR ⟨k,v,[a,b,c,d,e,u]⟩),_,Weak.mk (by simp (disch:=omega) only [Zs,Zn,go_sem,seval]),by grind [Dw],rfl⟩
  ·exact ⟨.p (AR ⟨k,v,[a,b,c,d,e,u]⟩),_,Weak.mk (by simp (disch:=omega) only [Zs,Zn,go_sem,seval]),by grind [Dw],rfl⟩
def Dh (n:Nat) (m:Int) (s:St):St:=Vp n m { s with ix:=s.ix+1 }
theorem Bs {P Q:Prop} (h:Q) (e:Q->P:=by intro h;simp (disch:=omega) only [YW,VF,Zs,Zn,ZW,ZM,go_sem,seval];exact h):P:=e h
theorem H8 (x:Inst) (f g:PV) (m:Int) (l:List (St×Int)) (s:St) (hs:StR s) (h0:0<=s.ix) (hn:x.orders.length<=10) (h1:s.ix<=9) :
  ACalls Tryz.prog 155 [.ptr 1 0,.p (AR s)] (YW x f g m l) fun y H'=>y= .p (AR (Dh x.orders.length m s))/\H'=YW x f g m l:=by
 have hc:=F3 x f g m l { s with ix:=s.ix+1 } hs (by grind) hn (by grind);obtain ⟨i,v,a,b,c,d,e,u,rfl⟩:=YK hs;obtain ⟨q,hq⟩: ∃q:Int,Dh x.orders.length m ⟨i,v,[a,b,c,d,e,u]⟩=⟨q,v,[a,b,c,d,e,u]⟩:=⟨_,rfl⟩;have hq':Vp x.orders.length m ⟨i+1,v,[a,b,c,d,e,u]⟩=⟨q,v,[a,b,c,d,e,u]⟩:=hq;rw [hq];simp only at h0 h1 hc;rw [hq'] at hc;refine Zf [] Tryz.func155 rfl ZaY ?_;simp (disch:=omega) only [Tryz.f155,YW,VF,Zs,Zn,go_sem,seval];refine hc.useP (L:= [_,_]) (by rfl) ?_ (by rfl) (by rfl);refine Bs ?_
 exact we
def CR (n:Nat) (m:Int) (s:St) (T:Nat) (C S:Nat):St:=Vp n m ⟨s.ix,((C|||S:Nat):Int),s.used.set T (nth s.used T+1)⟩
def DW (x:Inst) (s:St) (T:Nat) (C S:Nat):Bool:=decide (C&&&S=0)&&decide (nth s.used T<(nth x.types T).count)
theorem mW (x:Inst) (f g:PV) (m:Int) (l:List (St×Int)) (s:St) (c:Col) (hs:StR s) (h0:0<=s.ix) (hn:x.orders.length<=10) (h1:s.ix<=10) (C S T:Nat) (hC:s.cov=C) (hS:c.set=S) (hT:c.typ=T) (hC2:C<1024) (hS2:S<1024) (hT2:T<x.types.length) (h6:x.types.length<=6)
  (hu: ∀j,j<6->0<=nth s.used j/\nth s.used j<=1048576) :
  ACalls Tryz.prog 154 [.ptr 1 0,.p (AR s),.p (Yn c)] (YW x f g m l) fun y H'=>y=(if DW x s T C S=true then .tup [.p (AR (CR x.orders.length m s T C S)),.p (.bool true)] else .tup [.p (AR s),.p (.bool false)])/\H'=YW x f g m l:=by
 have hor:C|||S<1024:=Qc (n:=10) hC2 hS2;have hc:=F3 x f g m l ⟨s.ix,((C|||S:Nat):Int),s.used.set T (nth s.used T+1)⟩ (by grind [StR]) h0 hn h1;obtain ⟨i,v,a0,a1,a2,a3,a4,a5,rfl⟩:=YK hs
 have hT3:T=0\/T=1\/T=2\/T=3\/T=4\/T=5:=Za
 have u0:=hu 0 Za;have u1:=hu 1 Za;have u2:=hu 2 Za;have u3:=hu 3 Za;have u4:=hu 4 Za;have u5:=hu 5 Za;simp only [nth,List.getD_cons_zero,List.getD_cons_succ] at u0 u1 u2 u3 u4 u5;simp only at hC h0 h1;obtain ⟨ct,cs,cp,cr⟩:=c;simp only at hS hT;subst hC;subst hS;subst hT;obtain ⟨R,hR⟩: ∃R:V,R=(if DW x ⟨i,(C:Nat),[a0,a1,a2,a3,a4,a5]⟩ T C S=true then .tup [.p (AR (CR x.orders.length m ⟨i,(C:Nat),[a0,a1,a2,a3,a4,a5]⟩ T C S)),.p (.bool true)] else .tup [.p (AR ⟨i,(C:Nat),[a0,a1,a2,a3,a4,a5]⟩),.p (.bool false)]):=⟨_,rfl⟩
 rw [<- hR];obtain ⟨q,hq⟩: ∃q:Int,Vp x.orders.length m ⟨i,((C|||S:Nat):Int),[a0,a1,a2,a3,a4,a5].set T (nth [a0,a1,a2,a3,a4,a5] T+1)⟩=⟨q,((C|||S:Nat):Int),[a0,a1,a2,a3,a4,a5].set T (nth [a0,a1,a2,a3,a4,a5] T+1)⟩:=⟨_,rfl⟩;simp only at hc;rw [hq] at hc;have hw:CR x.orders.length m ⟨i,(C:Nat),[a0,a1,a2,a3,a4,a5]⟩ T C S=⟨q,((C|||S:Nat):Int),[a0,a1,a2,a3,a4,a5].set T (nth [a0,a1,a2,a3,a4,a5] T+1)⟩:=hq;rw [hw] at hR;refine Zf [] Tryz.func154 rfl ZaX ?_;rcases hT3 with rfl | rfl | rfl | rfl | rfl | rfl
 all_goals
  simp (disch:=omega) only [Tryz.f154,YW,VF,Zs,Zn,go_sem,seval,↓reduceIte];refine Xr ?_;simp (disch:=omega) only [go_sem,seval,↓reduceIte];refine gF ?_ ?_<;>intro h5<;>simp (disch:=omega) only [Sh.out h5,go_sem,seval,↓reduceIte]
  ·have hno:(decide (C&&&S=0))=false:=XK Za;exact ⟨.tup [.p (AR ⟨i,(C:Nat),[a0,a1,a2,a3,a4,a5]⟩),.p (.bool false)],_,Weak.mk (by simp (disch:=omega) only [Zs,Zn,go_sem,seval]),by rw [hR,if_neg (by rw [DW,hno];simp)],rfl⟩
  ·have hcs:C&&&S=0:=Za
   refine cD ?_ ?_<;>intro h7<;>simp (disch:=omega) only [Sh.out h7,go_sem,seval,↓reduceIte]
   ·exact ⟨.tup [.p (AR ⟨i,(C:Nat),[a0,a1,a2,a3,a4,a5]⟩),.p (.bool false)],_,Weak.mk (by simp (disch:=omega) only [Zs,Zn,go_sem,seval]),by rw [hR,if_neg (by rw [DW,Yk hcs,Wt];exact fun h=>Int.not_lt.2 h7 (Cf h))],rfl⟩
   ·rw [if_pos (by rw [DW,Yk hcs,Wt];exact Yk (Int.not_le.1 h7))] at hR;refine hc.useP (L:= [_,_,_]) (by rfl) ?_ (by rfl) (by rfl);simp (disch:=omega) only [YW,VF,Zs,Zn,ZW,ZM,Xe,XE,go_sem,seval,↓reduceIte];exact ⟨R,_,Weak.mk (by rw [hR];simp (disch:=omega) only [nth,List.getD_cons_zero,List.getD_cons_succ,Xe,XE,Zs,Zn,go_sem,seval]),rfl,rfl⟩
def YV (o p r:Int):Int:=if 0<=r/\(o<0\/p+r<o) then p+r else o
theorem Md (o p r:Int) (hp: -4611686018427387904<=p/\p<=4611686018427387904) (hr: -4611686018427387904<r/\r<4611686018427387904) :
  ACalls Tryz.prog 153 [.p (.int .i64 p),.p (.int .i64 r),.ptr 0 0] [.cells [.p (.int .i64 o)]] fun y H'=>y= .tup []/\H'= [.cells [.p (.int .i64 (YV o p r))]]:=by
 obtain ⟨T,hT⟩: ∃T,T=YV o p r:=⟨_,rfl⟩;rw [<- hT];unfold YV at hT;refine Zf [] Tryz.func153 rfl ZaW ?_;simp (disch:=omega) only [Tryz.f153,go_sem,seval];refine gT ?_ ?_<;>intro h1<;>simp (disch:=omega) only [Sh.out h1,go_sem,seval,↓reduceIte]
 ·refine gF ?_ ?_<;>intro h2<;>simp (disch:=omega) only [Sh.out h2,go_sem,seval,↓reduceIte]
  ·rw [if_pos ⟨h1,.inl h2⟩] at hT;subst hT;exact we
  ·refine cD ?_ ?_<;>intro h3<;>simp (disch:=omega) only [Sh.out h3,go_sem,seval,↓reduceIte]
   ·rw [if_pos ⟨h1,.inr h3⟩] at hT;subst hT;exact we
   ·rw [if_neg Za] at hT;subst hT;exact we
 ·rw [if_neg Za] at hT;subst hT;exact we
theorem CJ {n:Nat} {m cov:Int} : ∀(f k:Nat),k<=Bp n m cov f k
 | 0,k=>Zv _
 | f+1,k=>by
  rw [Bp]
  split
  ·have:=CJ (n:=n) (m:=m) (cov:=cov) f (k+1);omega
  ·omega
theorem Se {n:Nat} {m cov:Int} : ∀(f k:Nat),k<=n->Bp n m cov f k<=n
 | 0,k,h=>h
 | f+1,k,h=>by
  rw [Bp]
  split
  ·rename_i hc;exact Se f (k+1) Za
  ·exact h
theorem aV {n:Nat} {m cov:Int} {k:Nat} (h:k<n) (hb:sHas cov k=true):k+1<=Bp n m cov (n-k) k:=by
 grind [Ew,CJ]
theorem Fz {l:List Int} {i j:Nat} {a:Int} (h:i<l.length):nth (l.set i a) j=if i=j then a else nth l j:=by
 grind [nth]
structure StV (n:Nat) (s:St):Prop where
 len:StR s
 ix:0<=s.ix/\s.ix<=n
 cov: ∃C:Nat,s.cov=C/\C<1024
 used: ∀j,j<6->0<=nth s.used j/\nth s.used j<=1048576
theorem Lt {n:Nat} {m:Int} {s:St} (h:StV n s):StV n (Vp n m s)/\s.ix<=(Vp n m s).ix:=by
 obtain ⟨h1,h2,h3,h4⟩:=h;have a:=CJ (n:=n) (m:=m) (cov:=s.cov) (n-s.ix.toNat) s.ix.toNat;have b:=Se (n:=n) (m:=m) (cov:=s.cov) (n-s.ix.toNat) s.ix.toNat Za;exact ⟨⟨h1,by grind [Vp],h3,h4⟩,by grind [Vp]⟩
theorem I8 {n:Nat} {m:Int} {s:St} (h:StV n s) (hi:s.ix<n):StV n (Dh n m s)/\s.ix<(Dh n m s).ix:=by
 have h':StV n { s with ix:=s.ix+1 } :=⟨h.len,by have:=h.ix;grind,h.cov,h.used⟩
 grind [Lt,Dh]
theorem sR {C S k:Nat} (h:sHas (S:Int) k=true):sHas ((C|||S:Nat):Int) k=true:=by
 have key: ∀N:Nat,sHas (N:Int) k=true↔k<=62/\N.testBit k=true:=fun N=>by
  simp only [sHas,Zy,Zp,XO]
  grind
 grind
theorem tW {n:Nat} {m:Int} {s:St} {T C S:Nat} (h:StV n s) (hi:s.ix<n) (hC:C<1024) (hS:S<1024) (hb:sHas (S:Int) s.ix=true) (hT:T<6) (hu:nth s.used T<1048576):StV n (CR n m s T C S)/\s.ix<(CR n m s T C S).ix:=by
 have hor:C|||S<1024:=Qc (n:=10) hC hS;have hl:s.used.length=6:=h.len
 have h':StV n ⟨s.ix,((C|||S:Nat):Int),s.used.set T (nth s.used T+1)⟩:=by
  refine ⟨by grind [StR],h.ix,⟨_,rfl,hor⟩,fun j hj=> ?_⟩;simp only;rw [Fz Za]
  split
  ·have:=h.used T hT;omega
  ·exact h.used j hj
 grind [Lt,aV,sR,CR,Vp]
def YE (x:Inst) (s:St) (c:Col):Bool:=DW x s c.typ.toNat s.cov.toNat c.set.toNat
def VD (n:Nat) (m:Int) (s:St) (c:Col):St:=CR n m s c.typ.toNat s.cov.toNat c.set.toNat
def Y7 (n:Nat) (m:Int) (x:Inst) (fst:List (List Col)) (sk:List Int):Nat->St->Int
 | 0,_=>0
 | d+1,s=>if (n:Int)<=s.ix then 0 else
  let o:=(nth fst s.ix.toNat).foldl (fun o c=>if YE x s c=true then YV o c.price (Y7 n m x fst sk d (VD n m s c)) else o) (-1)
  if 0<=nth sk s.ix.toNat then YV o (nth sk s.ix.toNat) (Y7 n m x fst sk d (Dh n m s)) else o
structure ChOk (n:Nat) (x:Inst) (fst:List (List Col)) (sk:List Int):Prop where
 col: ∀i,i<n-> ∀c∈nth fst i,(0<=c.typ/\c.typ<x.types.length)/\(∃S:Nat,c.set=S/\S<1024)/\sHas c.set i=true/\0<=c.price/\c.price<=18014398509481984
 typ:x.types.length<=6/\ ∀t,t<6->(nth x.types t).count<=1048576
 skp: ∀i,i<n-> -1<=nth sk i/\nth sk i<=18014398509481984
theorem EA {n:Nat} {m:Int} {x:Inst} {fst:List (List Col)} {sk:List Int} (hc:ChOk n x fst sk) {s:St} (h:StV n s) (hi:s.ix<n) {c:Col} (hm:c∈nth fst s.ix.toNat) (hy:YE x s c=true):StV n (VD n m s c)/\s.ix<(VD n m s c).ix:=by
 obtain ⟨⟨t0,t1⟩,⟨S,hS,hS2⟩,hb,_⟩:=hc.col _ (by have:=h.ix;omega) c hm;obtain ⟨C,hC,hC2⟩:=h.cov;have ht:=hc.typ.1;have hcnt:=hc.typ.2 c.typ.toNat Za;simp only [YE,DW,Zy,Zp] at hy;have hi0:=h.ix;rw [show ((s.ix.toNat:Nat):Int)=s.ix by omega] at hb;exact tW h hi Za Za (by grind) Za Za
theorem Jp {α β:Type} {f g:β->α->β} : ∀ {l:List α} {b:β},(∀a∈l,∀b,f b a=g b a)->l.foldl f b=l.foldl g b
 | [],_,_=>rfl
 | a::l,b,h=>by
  rw [Vb,Vb,h a Zb b];exact Jp fun a ha=>h a (YQ _ ha)
theorem QV {n:Nat} {m:Int} {x:Inst} {fst:List (List Col)} {sk:List Int} (hc:ChOk n x fst sk): ∀(d d':Nat) (s:St),StV n s->(n:Int)-s.ix<d->(n:Int)-s.ix<d'->Y7 n m x fst sk d s=Y7 n m x fst sk d' s
 | 0,_,s,h,h1,_=>by have:=h.ix;omega
 | _,0,s,h,_,h1=>by have:=h.ix;omega
 | d+1,d'+1,s,h,h1,h2=>by
  rw [Y7,Y7]
  split
  ·rfl
  ·rename_i hi
   have e1:(nth fst s.ix.toNat).foldl (fun o c=>if YE x s c=true then YV o c.price (Y7 n m x fst sk d (VD n m s c)) else o) (-1)=(nth fst s.ix.toNat).foldl (fun o c=>if YE x s c=true then YV o c.price (Y7 n m x fst sk d' (VD n m s c)) else o) (-1):=Jp fun c hm o=>by
    by_cases hy:YE x s c=true
    ·obtain ⟨v1,v2⟩:=EA (m:=m) hc h Za hm hy;rw [if_pos hy,if_pos hy,QV hc d d' _ v1 Za Za]
    grind
   obtain ⟨v1,v2⟩:=I8 (m:=m) h Za;rw [QV hc d d' _ v1 Za Za];simp only [e1]
theorem Mc {o p r B:Int} (h1: -1<=o/\o<=B) (h2:0<=p) (h3:p+r<=B): -1<=YV o p r/\YV o p r<=B:=by
 grind [YV]
theorem Hl {α β:Type} {f:β->α->β} {R:β->Prop} : ∀ {l:List α} {b:β},R b->(∀a∈l,∀b,R b->R (f b a))->R (l.foldl f b)
 | [],_,h,_=>h
 | a::l,b,h,hf=>by
  rw [Vb];exact Hl (hf a Zb b h) fun a ha=>hf a (YQ _ ha)
theorem V7 {n:Nat} {m:Int} {x:Inst} {fst:List (List Col)} {sk:List Int} (hc:ChOk n x fst sk): ∀(d:Nat) (s:St),StV n s-> -1<=Y7 n m x fst sk d s/\Y7 n m x fst sk d s<=(d:Int)*18014398509481984
 | 0,s,h=>by simp [Y7]
 | d+1,s,h=>by
  rw [Y7]
  split
  ·omega
  ·rename_i hi;have i0:=h.ix
   have e1: -1<=(nth fst s.ix.toNat).foldl (fun o c=>if YE x s c=true then YV o c.price (Y7 n m x fst sk d (VD n m s c)) else o) (-1)/\(nth fst s.ix.toNat).foldl (fun o c=>if YE x s c=true then YV o c.price (Y7 n m x fst sk d (VD n m s c)) else o) (-1)<=((d+1:Nat):Int)*18014398509481984:=by
    refine Hl (R:=fun o:Int=> -1<=o/\o<=((d+1:Nat):Int)*18014398509481984) Za fun c hm o ho=> ?_
    split
    ·rename_i hy;obtain ⟨v1,v2⟩:=EA (m:=m) hc h Za hm hy;have:=V7 (m:=m) hc d _ v1;have:=(hc.col _ Za c hm).2.2.2;exact Mc ho Za Za
    ·exact ho
   have hs:=hc.skp s.ix.toNat Za;obtain ⟨v1,v2⟩:=I8 (m:=m) h Za;have:=V7 (m:=m) hc d _ v1;simp only
   split
   ·exact Mc e1 Za Za
   ·exact e1
def Wf (l:List Col):PV:= .list false (l.map Yn)
@[go_sem] theorem Zh5 (l:List Col):Wf l= .list false (l.map Yn):=Zl rfl rfl
def Ta (c:Col):AM.Obj:= .cells [.p (.int .i64 c.typ),.p (.int .i64 c.set),.p (.int .i64 c.price),.p (.int .i64 c.route.typ),.p (.int .i64 c.route.start),.p (.list c.route.rests_c (c.route.rests.map eB)),.p (.list c.route.visits_c (c.route.visits.map Z1))]
def wX (n:Nat) (m:Int) (x:Inst) (fst:List (List Col)) (sk:List Int) (l:List (St×Int)):Prop:= ∀p∈l,StV n p.1/\p.2=Y7 n m x fst sk 20 p.1
theorem F9 {P Q:Prop} (h:Q) (e:Q->P:=by intro h;simp (disch:=omega) only [YW,VF,Br,Zs,Zn,ZW,ZM,go_sem,seval];exact h):P:=e h
theorem D7 (x:Inst) (fst:List (List Col)) (sk:List Int) (fc sc:Bool) (m:Int) (hn:x.orders.length<=10) (hf:fst.length=x.orders.length) (hs:sk.length=x.orders.length) (hc:ChOk x.orders.length x fst sk) (hcl: ∀r∈fst,r.length<=1048576) :
  ∀(d:Nat) (s:St) (l:List (St×Int)),d<=20->StV x.orders.length s->(x.orders.length:Int)-s.ix<d->wX x.orders.length m x fst sk l ->
   ACalls Tryz.prog 101 [.ptr 1 0,.p (AR s)] (YW x (.list fc (fst.map Wf)) (.list sc (sk.map eI)) m l) fun y H'=> ∃l',wX x.orders.length m x fst sk l'/\y= .p (.int .i64 (Y7 x.orders.length m x fst sk 20 s))/\H'=YW x (.list fc (fst.map Wf)) (.list sc (sk.map eI)) m l'
 | 0,s,l,_,hv,hd,_=>by have:=hv.ix;omega
 | d+1,s,l,hd0,hv,hd,hl=>by
  have ih:=D7 x fst sk fc sc m hn hf hs hc hcl d;have hlR: ∀p∈l,StR p.1:=fun p hp=>(hl p hp).1.len;obtain ⟨i,v,a0,a1,a2,a3,a4,a5,rfl⟩:=YK hv.len;have hi:=hv.ix;simp only at hi hd;obtain ⟨i,rfl⟩: ∃k:Nat,i=k:=⟨i.toNat,Za⟩;obtain ⟨T,hT⟩: ∃T,T=Y7 x.orders.length m x fst sk 20 ⟨i,v,[a0,a1,a2,a3,a4,a5]⟩:=⟨_,rfl⟩;rw [<- hT];refine Zf [] Tryz.func101 rfl Zaf ?_;simp (disch:=omega) only [Tryz.f101,YW,VF,Zs,Zn,go_sem,seval];refine Xr ?_;refine Zc ?_;refine cD ?_ ?_<;>intro h1<;>simp (disch:=omega) only [Sh.out h1,go_sem,seval]
  ·rw [Y7,if_pos Za] at hT;subst hT;exact ⟨_,_,wk,l,hl,rfl,rfl⟩
  ·refine Xr (Zc ?_);refine fN (GY (k:=(⟨i,v,[a0,a1,a2,a3,a4,a5]⟩:St)) O0 hlR hv.len (by rfl)) (Zc ?_)
   cases hq:mq l (⟨i,v,[a0,a1,a2,a3,a4,a5]⟩:St) with
   | some w =>
    obtain ⟨_,hw⟩:=hl _ (Zc6 hq);simp only at hw;rw [<- hw] at hT;subst hT;simp (disch:=omega) only [JM,JA,go_sem,seval];exact ⟨_,_,wk,l,hl,rfl,rfl⟩
   | none =>
    have hi2:i<fst.length:=Za
    have hi3:i<sk.length:=Za
    have hrl:=hcl _ (ZF hi2);simp (disch:=omega) only [An,Option.getD_none,go_sem,seval];refine Xr (Zc ?_)
    let F:Int->Col->Int:=fun o c=>if YE x ⟨i,v,[a0,a1,a2,a3,a4,a5]⟩ c=true then YV o c.price (Y7 x.orders.length m x fst sk 19 (VD x.orders.length m ⟨i,v,[a0,a1,a2,a3,a4,a5]⟩ c)) else o
    refine Zk [0,3,7,8,42,43] (fun q:Nat×List (St×Int)=> [(44,.p (.int .i64 q.1))]) (fun q=>YW x (.list fc (fst.map Wf)) (.list sc (sk.map eI)) m q.2++ [Br ⟨i,v,[a0,a1,a2,a3,a4,a5]⟩,.cells [.p (.int .i64 (((nth fst i).take q.1).foldl F (-1)))]]) (fun q=>q.1<=(nth fst i).length/\wX x.orders.length m x fst sk q.2) (fun q=>(nth fst i).length-q.1) (0,l) ⟨Zb,hl⟩ (Weak.mk ?_) ?_
    ·simp (disch:=omega) only [YW,VF,Br,Zs,Zn,ZW,ZM,Ya,VW,go_sem,seval,↓reduceIte]
    ·rintro ⟨k,l1⟩ ⟨hk,hl1⟩;simp only at hk hl1;have hl1R: ∀p∈l1,StR p.1:=fun p hp=>(hl1 p hp).1.len;generalize hacc:((nth fst i).take k).foldl F (-1)=acc;refine F9 ?_;refine cD ?_ ?_<;>intro h2<;>simp (disch:=omega) only [Sh.out h2,go_sem,seval,↓reduceIte]
     ·have hk2:k<(nth fst i).length:=Za
      have hm:=ZF hk2
      have hs1:((nth fst i).take (k+1)).foldl F (-1)=F acc (nth (nth fst i) k):=by
       grind [Xl,Zi]
      obtain ⟨⟨t0,t1⟩,⟨S,hS,hS2⟩,hb,hp0,hp1⟩:=hc.col i Za _ hm;obtain ⟨C,hC,hC2⟩:=hv.cov;simp only at hC;have h6:=hc.typ.1;obtain ⟨tt,htt⟩: ∃tt:Nat,(nth (nth fst i) k).typ=tt:=⟨(nth (nth fst i) k).typ.toNat,Za⟩;have cw:=mW x (.list fc (fst.map Wf)) (.list sc (sk.map eI)) m l1 ⟨i,v,[a0,a1,a2,a3,a4,a5]⟩ (nth (nth fst i) k) hv.len Zb hn (by grind) C S tt hC hS htt hC2 hS2 Za h6 hv.used
      have hmay:YE x ⟨i,v,[a0,a1,a2,a3,a4,a5]⟩ (nth (nth fst i) k)=DW x ⟨i,v,[a0,a1,a2,a3,a4,a5]⟩ tt C S:=by grind [YE,XO]
      have hwc:VD x.orders.length m ⟨i,v,[a0,a1,a2,a3,a4,a5]⟩ (nth (nth fst i) k)=CR x.orders.length m ⟨i,v,[a0,a1,a2,a3,a4,a5]⟩ tt C S:=by grind [VD]
      by_cases hy:DW x ⟨i,v,[a0,a1,a2,a3,a4,a5]⟩ tt C S=true
      ·obtain ⟨v1,v2⟩:=EA (m:=m) hc hv (by grind) (by simpa using hm) (by grind);rw [hwc] at v1 v2;obtain ⟨j,w,b0,b1,b2,b3,b4,b5,hw⟩:=YK v1.len;rw [if_pos hy,hw] at cw;refine cw.useP (L:= [_,_,_]) (by rfl) ?_ (by rfl) (by rfl);refine Bs ?_;refine A9 [5] [1,2] [4] 6 mixed Ze Ze Ze Ze Zb (Zc ?_);refine ⟨fun q hq p hp=> ?_,?_⟩
       ·simp only [X2,Jz,or_false] at hq;rcases hq with rfl | rfl
        ·obtain rfl:10=p:=Vx hp;exact UC (by decide)
        ·obtain rfl:57=p:=Vx hp;exact UC (by decide)
       ·have c3:=((ih ⟨j,w,[b0,b1,b2,b3,b4,b5]⟩ l1 Za (hw ▸ v1) (by grind) hl1).mono (fun y H' hq=>(⟨hq,by obtain ⟨l',_,_,rfl⟩:=hq;rfl⟩:_/\H'.length=(YW x (.list fc (fst.map Wf)) (.list sc (sk.map eI)) m l1).length))).front (by rfl) (by rfl) [Br ⟨i,v,[a0,a1,a2,a3,a4,a5]⟩,.cells [.p (.int .i64 acc)],Ta (nth (nth fst i) k),Br ⟨j,w,[b0,b1,b2,b3,b4,b5]⟩];refine Hu 5 _ Ze (by refine Zc ?_;exact c3) ?_;rintro y H' ⟨H1,⟨l2,hl2,rfl,rfl⟩,rfl⟩;refine ⟨fun k hk=>by simp at hk;subst hk;rfl,RL ?_⟩;simp (disch:=omega) only [YW,VF,Br,Ta,Zs,Zn,ZW,ZM,go_sem,seval]
        have hrg:=V7 (m:=m) hc 20 _ v1;rw [hw] at hrg;have c4:=(((Md acc (nth (nth fst i) k).price (Y7 x.orders.length m x fst sk 20 ⟨j,w,[b0,b1,b2,b3,b4,b5]⟩) Za Za).back [.map (l2.map (Mx AR)),VF x (.list fc (fst.map Wf)) (.list sc (sk.map eI)) m,Br ⟨i,v,[a0,a1,a2,a3,a4,a5]⟩] (by rfl)).mono (fun y H' hq=>(⟨hq,by grind⟩:_/\H'.length=4))).front (by rfl) (by rfl) [Ta (nth (nth fst i) k),Br ⟨j,w,[b0,b1,b2,b3,b4,b5]⟩];refine ACalls.mono c4 ?_;rintro y H' ⟨H1,⟨y1,H2,⟨rfl,rfl⟩,rfl,rfl⟩,rfl⟩;simp (disch:=omega) only [VF,Br,Ta,Zs,Zn,ZW,ZM,shO,shVs,shV,go_sem,seval]
        have hF:F acc (nth (nth fst i) k)=YV acc (nth (nth fst i) k).price (Y7 x.orders.length m x fst sk 20 ⟨j,w,[b0,b1,b2,b3,b4,b5]⟩):=by
         show (if _ then _ else _)=_
         rw [if_pos (by grind),hwc,QV hc 19 20 _ v1 (by grind) (by grind),hw]
        exact ⟨(k+1,l2),⟨Za,hl2⟩,Za,Weak.mk (by simp (disch:=omega) only [hs1,hF,go_sem,seval])⟩
      ·rw [if_neg hy] at cw;refine cw.useP (L:= [_,_,_]) (by rfl) ?_ (by rfl) (by rfl);refine Bs ?_;have hF:F acc (nth (nth fst i) k)=acc:=if_neg (by grind);exact ⟨(k+1,l1),⟨Za,hl1⟩,Za,Weak.mk (by simp (disch:=omega) only [hs1,hF,go_sem,seval])⟩
     ·have hkl:k=(nth fst i).length:=Za
      subst hkl;rw [Xi] at hacc
      have hTe:T=if 0<=nth sk i then YV acc (nth sk i) (Y7 x.orders.length m x fst sk 19 (Dh x.orders.length m ⟨i,v,[a0,a1,a2,a3,a4,a5]⟩)) else acc:=by
       rw [hT,show (20:Nat)=19+1 from rfl,Y7,if_neg Za,<- hacc]
       rfl
      refine Xr (Zc ?_);refine cD ?_ ?_<;>intro h3<;>simp (disch:=omega) only [Sh.out h3,go_sem,seval,↓reduceIte]
      ·have cn:=H8 x (.list fc (fst.map Wf)) (.list sc (sk.map eI)) m l1 ⟨i,v,[a0,a1,a2,a3,a4,a5]⟩ hv.len Zb hn (by grind);obtain ⟨v1,v2⟩:=I8 (m:=m) hv (by grind);obtain ⟨j,w,b0,b1,b2,b3,b4,b5,hw⟩:=YK v1.len;have hsk:=hc.skp i Za;have hrg:=V7 (m:=m) hc 20 _ v1;rw [hw] at cn v1 v2 hrg;simp only at v2;refine cn.useP (L:= [_,_]) (by rfl) ?_ (by rfl) (by rfl);refine Bs ?_;have c3:=((ih ⟨j,w,[b0,b1,b2,b3,b4,b5]⟩ l1 Za v1 (by grind) hl1).mono (fun y H' hq=>(⟨hq,by obtain ⟨l',_,_,rfl⟩:=hq;rfl⟩:_/\H'.length=(YW x (.list fc (fst.map Wf)) (.list sc (sk.map eI)) m l1).length))).front (by rfl) (by rfl) [Br ⟨i,v,[a0,a1,a2,a3,a4,a5]⟩,.cells [.p (.int .i64 acc)]]
       refine ACalls.mono c3 ?_;rintro y H' ⟨H1,⟨l2,hl2,rfl,rfl⟩,rfl⟩;refine F9 ?_;refine ACalls.mono ((Md acc (nth sk i) (Y7 x.orders.length m x fst sk 20 ⟨j,w,[b0,b1,b2,b3,b4,b5]⟩) Za Za).back [.map (l2.map (Mx AR)),VF x (.list fc (fst.map Wf)) (.list sc (sk.map eI)) m,Br ⟨i,v,[a0,a1,a2,a3,a4,a5]⟩] (by rfl)) ?_;rintro y H' ⟨y1,H2,⟨rfl,rfl⟩,rfl,rfl⟩;simp (disch:=omega) only [VF,Br,Zs,Zn,ZW,ZM,shO,shVs,shV,go_sem,seval];refine ZV 6 mixed Ze Ze ?_
       refine Zc ?_;refine Ln (l:=l2) (k:=(⟨i,v,[a0,a1,a2,a3,a4,a5]⟩:St)) O0 (fun p hp=>(hl2 p hp).1.len) hv.len (by rfl) fun l3 _ hl3=> ?_;simp (disch:=omega) only [Xe,go_sem,seval];rw [if_pos h3,QV hc 19 20 _ (by grind) (by grind) (by grind),hw] at hTe;rw [<- hTe];exact ⟨.p (.int .i64 T),_,wk,l3,fun p hp=>(hl3 p hp).elim (hl2 p) (fun e=>by grind),rfl,rfl⟩
      ·refine ZV 6 mixed Ze Ze (Zc ?_);refine Ln (l:=l1) (k:=(⟨i,v,[a0,a1,a2,a3,a4,a5]⟩:St)) O0 hl1R hv.len (by rfl) fun l3 _ hl3=> ?_;simp (disch:=omega) only [Xe,go_sem,seval];rw [if_neg h3] at hTe;rw [<- hTe];exact ⟨.p (.int .i64 T),_,wk,l3,fun p hp=>(hl3 p hp).elim (hl1 p) (fun e=>by grind),rfl,rfl⟩
def Ls (n:Nat) (m:Int) (x:Inst) (fst:List (List Col)) (sk:List Int) (s:St) (c:Col):Bool :=
 YE x s c&&(decide (0<=Y7 n m x fst sk 20 (VD n m s c))&&decide (c.price+Y7 n m x fst sk 20 (VD n m s c)=Y7 n m x fst sk 20 s))
def Yy (n:Nat) (m:Int) (x:Inst) (fst:List (List Col)) (sk:List Int):Nat->St->List Col×List Int
 | 0,_=>([],[])
 | d+1,s=>if (n:Int)<=s.ix then ([],[]) else match (nth fst s.ix.toNat).find? (Ls n m x fst sk s) with
  | some c=>(c::(Yy n m x fst sk d (VD n m s c)).1,(Yy n m x fst sk d (VD n m s c)).2)
  | none=>((Yy n m x fst sk d (Dh n m s)).1,s.ix::(Yy n m x fst sk d (Dh n m s)).2)
theorem MI {α:Type} [Inhabited α] {p:α->Bool} : ∀ {l:List α} {k:Nat},k<l.length->(∀j,j<k->p (nth l j)=false)->p (nth l k)=true->l.find? p=some (nth l k)
 | [],_,h,_,_=>by simp at h
 | a::l,0,_,_,h=>by
  grind [nth]
 | a::l,k+1,hk,h0,h=>by
  rw [List.find?_cons_of_neg (by rw [show p a=false from h0 0 Za];simp)];exact MI (l:=l) (k:=k) (by simpa using hk) (fun j hj=>h0 (j+1) Za) h
theorem pW {α:Type} [Inhabited α] {p:α->Bool} {l:List α} (h: ∀j,j<l.length->p (nth l j)=false):l.find? p=none:=by
 rw [Am];intro a ha;obtain ⟨j,hj,rfl⟩:=ZU.1 ha
 grind [Zi]
theorem Zdl (X:AM.Obj) (hX: ∀H n,EB H n X X) (hX2: ∀o xs,Rv o xs X=X) (x:Inst) (fst:List (List Col)) (sk:List Int) (fc sc:Bool) (m:Int) (hn:x.orders.length<=10) (hf:fst.length=x.orders.length) (hs:sk.length=x.orders.length) (hc:ChOk x.orders.length x fst sk) (hcl: ∀r∈fst,r.length<=1048576)
  (s:St) (l:List (St×Int)) (hv:StV x.orders.length s) (hl:wX x.orders.length m x fst sk l) :
  ACalls Tryz.prog 102 [.ptr 1 0,.p (AR s)] (YW x (.list fc (fst.map Wf)) (.list sc (sk.map eI)) m l++ [X]) fun y H'=> ∃l' A B,wX x.orders.length m x fst sk l'/\(A,B)=Yy x.orders.length m x fst sk 20 s /\
   y= .tup [.sl 4 0 A.length A.length,.p (.list false (B.map eI))]/\H'=YW x (.list fc (fst.map Wf)) (.list sc (sk.map eI)) m l'++ [X,.cells (List.replicate 8 .junk),.elems 7 (A.map Yn)]:=by
 obtain ⟨i,v,a0,a1,a2,a3,a4,a5,rfl⟩:=YK hv.len;obtain ⟨D,hD⟩: ∃D,D=20:=⟨20,rfl⟩;obtain ⟨R,hR⟩: ∃R,R=Yy x.orders.length m x fst sk D ⟨i,v,[a0,a1,a2,a3,a4,a5]⟩:=⟨_,rfl⟩;rw [<- hD,<- hR];have hi0:=hv.ix;simp only at hi0;refine Zf [20] Tryz.func102 rfl Zag ?_;simp (disch:=omega) only [Tryz.f102,ZW,ZM,YW,VF,Zs,Zn,go_sem,seval]
 refine ZO [20] [0,3] (fun q:Nat×St×List (St×Int)×List Col×List Int=> [(6,.sl 4 0 q.2.2.2.1.length q.2.2.2.1.length),(7,.sl 5 0 q.2.2.2.2.length q.2.2.2.2.length)])
  (fun q=>YW x (.list fc (fst.map Wf)) (.list sc (sk.map eI)) m q.2.2.1++ [X,Br q.2.1,.elems 7 (q.2.2.2.1.map Yn),.elems 1 (q.2.2.2.2.map eI)])
  (fun q=>q.1<=D/\StV x.orders.length q.2.1/\(x.orders.length:Int)-q.2.1.ix<q.1/\wX x.orders.length m x fst sk q.2.2.1/\(q.2.2.2.1.length:Int)<=q.2.1.ix/\(q.2.2.2.2.length:Int)<=q.2.1.ix/\R=(q.2.2.2.1++(Yy x.orders.length m x fst sk q.1 q.2.1).1,q.2.2.2.2++(Yy x.orders.length m x fst sk q.1 q.2.1).2))
  (fun q=>q.1) (D,⟨i,v,[a0,a1,a2,a3,a4,a5]⟩,l,[],[]) ⟨Zb,hv,by grind,hl,by grind,by grind,by rw [hR];rfl⟩
  (Weak.ofNil 6 7 (by simp (disch:=omega) only [go_sem,seval]) Zb (Weak.ofNil 7 1 (by simp (disch:=omega) only [go_sem,seval]) Zb (Weak.mk ?_))) ?_
 ·simp (disch:=omega) only [hX,YW,VF,Br,Zs,Zn,ZW,ZM,Zz,go_sem,seval,↓reduceIte]
 ·rintro ⟨d,s,l1,A,B⟩ ⟨hd1,hsv,hd,hl1,hA,hB,hq⟩;simp only at hd1 hsv hd hl1 hA hB hq;clear hv hR hi0;obtain ⟨i,v,a0,a1,a2,a3,a4,a5,rfl⟩:=YK hsv.len;have hi0:=hsv.ix;simp only at hi0 hd hA hB hq;obtain ⟨i,rfl⟩: ∃k:Nat,i=k:=⟨i.toNat,Za⟩;obtain ⟨d,rfl⟩: ∃k,d=k+1:=⟨d-1,Za⟩;refine F9 ?_;refine Xr ?_;refine Zc ?_;refine cD ?_ ?_<;>intro h1<;>simp (disch:=omega) only [Sh.out h1,go_sem,seval,↓reduceIte]
  ·have hi2:i<fst.length:=Za
   have hrl:=hcl _ (ZF hi2);have c3:=((D7 x fst sk fc sc m hn hf hs hc hcl 20 ⟨i,v,[a0,a1,a2,a3,a4,a5]⟩ l1 Za hsv (by grind) hl1).mono (fun y H' hq=>(⟨hq,by obtain ⟨l',_,_,rfl⟩:=hq;rfl⟩:_/\H'.length=(YW x (.list fc (fst.map Wf)) (.list sc (sk.map eI)) m l1).length))).front (by rfl) (by rfl) [X,Br ⟨i,v,[a0,a1,a2,a3,a4,a5]⟩,.elems 7 (A.map Yn),.elems 1 (B.map eI)];refine ACalls.mono c3 ?_;rintro y H' ⟨H1,⟨l2,hl2,rfl,rfl⟩,rfl⟩;clear hl1 c3;obtain ⟨W,hW⟩: ∃W,W=Y7 x.orders.length m x fst sk 20 ⟨i,v,[a0,a1,a2,a3,a4,a5]⟩:=⟨_,rfl⟩
   rw [<- hW]
   have hWr: -1<=W/\W<=20*18014398509481984:=by rw [hW];exact V7 hc 20 _ hsv
   refine F9 ?_;refine Xr (Zc ?_);refine Zk [0,3,7,8,34,35] (fun q:Nat×List (St×Int)=> [(6,.sl 4 0 A.length A.length),(9,.p (.bool false)),(36,.p (.int .i64 q.1))]) (fun q=>YW x (.list fc (fst.map Wf)) (.list sc (sk.map eI)) m q.2++ [X,Br ⟨i,v,[a0,a1,a2,a3,a4,a5]⟩,.elems 7 (A.map Yn),.elems 1 (B.map eI)]) (fun q=>q.1<=(nth fst i).length/\wX x.orders.length m x fst sk q.2/\ ∀j,j<q.1->Ls x.orders.length m x fst sk ⟨i,v,[a0,a1,a2,a3,a4,a5]⟩ (nth (nth fst i) j)=false) (fun q=>(nth fst i).length-q.1) (0,l2) ⟨Zb,hl2,fun j hj=>by simp at hj⟩ (Weak.mk ?_) ?_
   ·simp (disch:=omega) only [hX,YW,VF,Br,Zs,Zn,ZW,ZM,go_sem,seval,↓reduceIte]
   ·rintro ⟨k,l1⟩ ⟨hk,hl1,hno⟩;simp only at hk hl1 hno;refine F9 ?_;refine cD ?_ ?_<;>intro h2<;>simp (disch:=omega) only [Sh.out h2,go_sem,seval,↓reduceIte]
    ·have hk2:k<(nth fst i).length:=Za
     have hm:=ZF hk2;obtain ⟨⟨t0,t1⟩,⟨S,hS,hS2⟩,hb,hp0,hp1⟩:=hc.col i Za _ hm;obtain ⟨C,hC,hC2⟩:=hsv.cov;simp only at hC;have h6:=hc.typ.1;obtain ⟨tt,htt⟩: ∃tt:Nat,(nth (nth fst i) k).typ=tt:=⟨(nth (nth fst i) k).typ.toNat,Za⟩;have cw:=mW x (.list fc (fst.map Wf)) (.list sc (sk.map eI)) m l1 ⟨i,v,[a0,a1,a2,a3,a4,a5]⟩ (nth (nth fst i) k) hsv.len Zb hn (by grind) C S tt hC hS htt hC2 hS2 Za h6 hsv.used
     have hmay:YE x ⟨i,v,[a0,a1,a2,a3,a4,a5]⟩ (nth (nth fst i) k)=DW x ⟨i,v,[a0,a1,a2,a3,a4,a5]⟩ tt C S:=by grind [YE]
     have hwc:VD x.orders.length m ⟨i,v,[a0,a1,a2,a3,a4,a5]⟩ (nth (nth fst i) k)=CR x.orders.length m ⟨i,v,[a0,a1,a2,a3,a4,a5]⟩ tt C S:=by grind [VD]
     have more:Ls x.orders.length m x fst sk ⟨i,v,[a0,a1,a2,a3,a4,a5]⟩ (nth (nth fst i) k)=false-> ∀j,j<k+1->Ls x.orders.length m x fst sk ⟨i,v,[a0,a1,a2,a3,a4,a5]⟩ (nth (nth fst i) j)=false:=fun h j hj=>by
      grind
     by_cases hy:DW x ⟨i,v,[a0,a1,a2,a3,a4,a5]⟩ tt C S=true
     ·obtain ⟨v1,v2⟩:=EA (m:=m) hc hsv Za (by simpa using hm) (by grind);rw [hwc] at v1 v2;obtain ⟨j,w,b0,b1,b2,b3,b4,b5,hw⟩:=YK v1.len;rw [if_pos hy,hw] at cw;refine cw.useP (L:= [_,_,_,_,_]) (by rfl) ?_ (by rfl) (by rfl);refine Bs ?_;have c3:=((D7 x fst sk fc sc m hn hf hs hc hcl 20 ⟨j,w,[b0,b1,b2,b3,b4,b5]⟩ l1 Za (hw ▸ v1) (by grind) hl1).mono (fun y H' hq=>(⟨hq,by obtain ⟨l',_,_,rfl⟩:=hq;rfl⟩:_/\H'.length=(YW x (.list fc (fst.map Wf)) (.list sc (sk.map eI)) m l1).length))).front (by rfl) (by rfl) [X,Br ⟨i,v,[a0,a1,a2,a3,a4,a5]⟩,.elems 7 (A.map Yn),.elems 1 (B.map eI),Ta (nth (nth fst i) k),Br ⟨j,w,[b0,b1,b2,b3,b4,b5]⟩]
      refine ACalls.mono c3 ?_;rintro y H' ⟨H1,⟨l3,hl3,rfl,rfl⟩,rfl⟩;have hTr:=V7 (m:=m) hc 20 _ v1
      have hsel:Ls x.orders.length m x fst sk ⟨i,v,[a0,a1,a2,a3,a4,a5]⟩ (nth (nth fst i) k)=(decide (0<=Y7 x.orders.length m x fst sk 20 ⟨j,w,[b0,b1,b2,b3,b4,b5]⟩)&&decide ((nth (nth fst i) k).price+Y7 x.orders.length m x fst sk 20 ⟨j,w,[b0,b1,b2,b3,b4,b5]⟩=W)):=by
       rw [Ls,hmay,hy,hwc,hw,hW,Wt]
      rw [hw] at hTr;generalize Y7 x.orders.length m x fst sk 20 ⟨j,w,[b0,b1,b2,b3,b4,b5]⟩=T at hTr hsel;simp (disch:=omega) only [YW,VF,Br,Ta,Zs,Zn,ZW,ZM,go_sem,seval];refine gT ?_ ?_<;>intro h3<;>simp (disch:=omega) only [Sh.out h3,go_sem,seval,↓reduceIte]
      ·refine cD ?_ ?_<;>intro h4<;>simp (disch:=omega) only [Sh.out h4,go_sem,seval,↓reduceIte]
       ·rw [Yk h3,Yk h4,Wt] at hsel
        have hp:Yy x.orders.length m x fst sk (d+1) ⟨i,v,[a0,a1,a2,a3,a4,a5]⟩=(nth (nth fst i) k::(Yy x.orders.length m x fst sk d ⟨j,w,[b0,b1,b2,b3,b4,b5]⟩).1,(Yy x.orders.length m x fst sk d ⟨j,w,[b0,b1,b2,b3,b4,b5]⟩).2):=by
         rw [Yy,if_neg (by grind)];simp only [XO,MI hk2 hno hsel,hwc,hw]
        rw [hw] at v1 v2;simp only at v2;rw [hp] at hq;exact ⟨(d,⟨j,w,[b0,b1,b2,b3,b4,b5]⟩,l3,A++ [nth (nth fst i) k],B),⟨Za,v1,by grind,hl3,by grind,by grind,by grind⟩,Za,Weak.mk (by simp (disch:=omega) only [hX,Zs,Zn,XA,ZG,Zw,Zz,XV,go_sem,seval])⟩
       ·rw [XK h4,Jx] at hsel;exact ⟨(k+1,l3),⟨Za,hl3,more hsel⟩,Za,Weak.mk (by simp (disch:=omega) only [hX,go_sem,seval])⟩
      ·rw [XK h3,UR] at hsel;exact ⟨(k+1,l3),⟨Za,hl3,more hsel⟩,Za,Weak.mk (by simp (disch:=omega) only [hX,go_sem,seval])⟩
     ·rw [if_neg hy] at cw;refine cw.useP (L:= [_,_,_,_,_]) (by rfl) ?_ (by rfl) (by rfl);refine Bs ?_;exact ⟨(k+1,l1),⟨Za,hl1,more (by rw [Ls,hmay,Bool.eq_false_iff.2 hy,UR])⟩,Za,Weak.mk (by simp (disch:=omega) only [hX,go_sem,seval])⟩
    ·have hkl:k=(nth fst i).length:=Za
     subst hkl
     have hp:Yy x.orders.length m x fst sk (d+1) ⟨i,v,[a0,a1,a2,a3,a4,a5]⟩=((Yy x.orders.length m x fst sk d (Dh x.orders.length m ⟨i,v,[a0,a1,a2,a3,a4,a5]⟩)).1,(i:Int)::(Yy x.orders.length m x fst sk d (Dh x.orders.length m ⟨i,v,[a0,a1,a2,a3,a4,a5]⟩)).2):=by
      simp_all [Yy,pW]
     rw [hp] at hq;have cn:=H8 x (.list fc (fst.map Wf)) (.list sc (sk.map eI)) m l1 ⟨i,v,[a0,a1,a2,a3,a4,a5]⟩ hsv.len Zb hn (by grind);obtain ⟨v1,v2⟩:=I8 (m:=m) hsv Za;obtain ⟨j,w,b0,b1,b2,b3,b4,b5,hw⟩:=YK v1.len;rw [hw] at cn v1 v2 hq;simp only at v2;refine cn.useP (L:= [_,_,_,_,_]) (by rfl) ?_ (by rfl) (by rfl);refine Bs ?_;exact ⟨(d,⟨j,w,[b0,b1,b2,b3,b4,b5]⟩,l1,A,B++ [(i:Int)]),⟨Za,v1,by grind,hl1,by grind,by grind,by grind⟩,Za,Weak.mk (by simp (disch:=omega) only [hX,Zs,Zn,XA,ZG,Zw,Zz,XV,go_sem,seval])⟩
  ·rw [Yy,if_pos (by grind)] at hq;simp only [Vw] at hq;subst hq;refine Zq (Weak.fz (o:=5) (by rfl)) (Zg [] _ _ _ _ (Vm ?_));exact ⟨.tup [.sl 4 0 A.length A.length,.p (.list false (B.map eI))],_,Weak.mk (by simp (disch:=omega) only [hX,hX2,go_sem,seval]),l1,A,B,hl1,rfl,rfl,rfl⟩
def gK (a:List Int) (i:Nat):Nat->Bool
 | 0=>true
 | k+1=>gK a i k&&decide (nth a k≠nth a i)
theorem MO {a:List Int} {i:Nat} : ∀k,gK a i k=true↔ ∀t,t<k->nth a t≠nth a i
 | 0=>by simp [gK]
 | k+1=>by
  rw [gK,Zy,MO k,Zp]
  grind
def OU (a:List Int) (i:Nat):Bool:=gK a i i
theorem BY {a:List Int} {i:Nat} :OU a i=true↔ ∀t,t<i->nth a t≠nth a i:=MO i
def DZ (l:List Col) (a:List Int) (T:Int) (i:Nat):Bool:=decide (0<=nth a i)&&(decide ((nth l (nth a i).toNat).typ=T)&&OU a i)
def usdI (l:List Col) (a:List Int) (T:Int):Nat->Nat
 | 0=>0
 | i+1=>usdI l a T i+(if DZ l a T i=true then 1 else 0)
def AT (S:Nat) (a:List Int) (j:Int):List Int:=(List.range a.length).map fun i=>if S.testBit i=true then j else nth a i
theorem KR {S:Nat} {a:List Int} {j:Int} :(AT S a j).length=a.length:=by simp [AT]
theorem XL {S:Nat} {a:List Int} {j:Int} {i:Nat} (h:i<a.length):nth (AT S a j) i=if S.testBit i=true then j else nth a i:=by
 grind [AT,Zi]
def okA (S:Nat) (a:List Int) (k:Nat):Bool:=(List.range a.length).all fun i=> !S.testBit i||(decide (nth a i<0)&&decide (k<=i))
theorem Cr {S:Nat} {a:List Int} {k:Nat} :okA S a k=true↔ ∀i,i<a.length->S.testBit i=true->nth a i<0/\k<=i:=by
 simp only [okA,Zt,ZP,Wc,XU,Zy,Zp]
 grind
def EW (x:Inst) (l:List Col) (a:List Int) (j k:Nat):Bool :=
 (nth l j).set.toNat.testBit k&&(decide ((usdI l a (nth l j).typ a.length:Int)<(nth x.types (nth l j).typ.toNat).count)&&okA (nth l j).set.toNat a k)
def skR (x:Inst) (k:Nat):Int:=(Xn (XQ x k).1).1
def Hv (x:Inst) (l:List Col):Nat->List Int->Int->List (List Int×Int)
 | 0,a,p=> [(a,p)]
 | d+1,a,p=>if (nth x.orders (x.orders.length-(d+1))).off=true\/0<=nth a (x.orders.length-(d+1)) then Hv x l d a p else
  ((List.range l.length).flatMap fun j=>if EW x l a j (x.orders.length-(d+1))=true then Hv x l d (AT (nth l j).set.toNat a j) (p+(nth l j).price) else []) ++
   (if 0<=(nth x.orders (x.orders.length-(d+1))).penalty then Hv x l d a (p+skR x (x.orders.length-(d+1))) else [])
theorem OE (a b:Col) (ha:a.route.visits.length<=1048576) (hb:b.route.visits.length<=1048576):PC 239 [.p (Yn a),.p (Yn b)] (.bool (Qq a b)):=by
 refine Zd Tryz.func239 rfl ZbK ?_;simp (disch:=omega) only [Tryz.f239,go_sem,seval];refine cD ?_ ?_<;>intro h<;>simp (disch:=omega) only [Sh.out h,go_sem,seval,↓reduceIte]
 ·rw [Qq,if_pos h]
 ·refine (aU a.route.visits b.route.visits a.route.visits_c b.route.visits_c ha hb).use (Zc ?_);rw [Qq,if_neg h]
def QH : Col:=⟨0,0,0,⟨0,0,true,[],true,[]⟩⟩
def pL : AM.Obj:= .cells ((yP QH).map .p)
def GI (one:Nat->List Col):Nat->List Col
 | 0=> []
 | q+1=>GI one q++one (q+1)
theorem FS {one:Nat->List Col} (h: ∀q,(one q).length<=1): ∀q,(GI one q).length<=q
 | 0=>Zv _
 | q+1=>by
  have:=FS h q;have:=h (q+1);rw [GI,ZG];omega
theorem lK (n:Nat) (h:n<=4):ACalls Tryz.prog 91 [.p (.list false [.int .i64 (-1)]),.p (.int .i64 n)] [] fun y H'=>y= .sl 0 0 n n/\H'= [.elems 1 ((Wk (fun _=> -1) n).map eI)]:=by
 match n,h with
 | 0,_=>exact YJ { kp:= [91] } 20 mixed Ze
 | 1,_=>exact YJ { kp:= [91] } 20 mixed Ze
 | 2,_=>exact YJ { kp:= [91] } 20 mixed Ze
 | 3,_=>exact YJ { kp:= [91] } 20 mixed Ze
 | 4,_=>exact YJ { kp:= [91] } 20 mixed Ze
theorem MM : ∀(l:List Int),DH (l.map eI)=true
 | []=>rfl
 | a::l=>by simp [DH,OT,eI,MM l]
def B4 (x:Inst) (p:Pln):V:=if Wq x p=0 then .tup [.p (.list false ((DV x p).map eI)),.p (.int .i64 0)] else .tup [.p (.list true []),.p (.int .i64 (Wq x p))]
theorem TF (x:Inst) (p:Pln) (hn:x.orders.length<=4) (ht:x.types.length<=1048576) (hr:p.routes.length<=1048576) (hv: ∀r∈p.routes,r.visits.length<=1048576) :
  ACalls Tryz.prog 53 [.p (ZE x),.p (Wh p)] [] fun y H'=>y=B4 x p/\H'= []:=by
 have hrp:=lK x.orders.length hn;have hgl: ∀f,(Wk f x.orders.length).length=x.orders.length:=fun f=>FP;have h0:Wk (fun _=> -1) x.orders.length=Wk (XD p.routes 0) x.orders.length:=rfl;refine Zf [2] Tryz.func53 rfl ZiG ?_;simp (disch:=omega) only [Tryz.f53,go_sem,seval];refine ACalls.viewF hrp (by rfl) (MM _) (Zc ?_);refine Zg [26] _ _ _ _ (Zc ?_);refine ZO [26] [2,3,6,21,22] (fun k:Nat=> [(7,.p (.bool (NZ p.routes k))),(23,.p (.int .i64 k))]) (fun k=> [Zh x,Zu p,.elems 1 [.int .i64 (-1)],.elems 1 ((Wk (XD p.routes k) x.orders.length).map eI)]) (fun k=>k<=p.routes.length/\ ∀j,j<k->Q0 x (nth p.routes j)=false) (fun k=>p.routes.length-k) 0 Zb (Weak.mk ?_) ?_
 ·simp (disch:=omega) only [Zh,Zu,h0,NZ,go_sem,seval]
 ·rintro k ⟨hk,hno⟩;refine Wz ?_;refine cD ?_ ?_<;>intro h1<;>simp (disch:=omega) only [Sh.out h1,go_sem,seval,↓reduceIte]
  ·have hk2:k<p.routes.length:=Za
   have hvl:=hv _ (Zo hk2);have hbt:(nth p.routes k).typ<0\/(x.types.length:Int)<=(nth p.routes k).typ->Wq x p=2:=fun h=>B3 hk2 (by simp_all [Q0]);have hbv: ∀q,q<(nth p.routes k).visits.length->Gj x.orders.length (nth (nth p.routes k).visits q)=true->Wq x p=2:=fun q hq h=>B3 hk2 (by rw [Q0,Wc];grind [Zo]);refine gF ?_ ?_<;>intro h2<;>simp (disch:=omega) only [Sh.out h2,go_sem,seval,↓reduceIte]
   ·rw [B4,hbt (.inl h2)];exact we (by simp (disch:=omega) only [go_sem,seval,↓reduceIte])
   ·refine cD ?_ ?_<;>intro h3<;>simp (disch:=omega) only [Sh.out h3,go_sem,seval,↓reduceIte]
    ·rw [B4,hbt (.inr h3)];exact we (by simp (disch:=omega) only [go_sem,seval,↓reduceIte])
    ·obtain ⟨vs,hvs⟩: ∃vs,vs=(nth p.routes k).visits:=⟨_,rfl⟩;rw [<- hvs] at hvl hbv
     have hm0:XD p.routes k=QC p.routes k (vs.take 0):=by rfl
     have ht0:NZ p.routes k=(NZ p.routes k||Sm p.routes k (vs.take 0)):=by simp [Sm]
     refine Zk [2,3,6,8,21,22,23,40,41] (fun q:Nat=> [(7,.p (.bool (NZ p.routes k||Sm p.routes k (vs.take q)))),(42,.p (.int .i64 q))]) (fun q=> [Zh x,Zu p,.elems 1 [.int .i64 (-1)],.elems 1 ((Wk (QC p.routes k (vs.take q)) x.orders.length).map eI),ZA (nth p.routes k)]) (fun q=>q<=vs.length/\ ∀j,j<q->0<=(nth vs j).order/\(nth vs j).order<(x.orders.length:Int)) (fun q=>vs.length-q) 0 Zb (Weak.mk ?_) ?_
     ·simp (disch:=omega) only [Zh,Zu,ZA,<- hvs,go_sem,seval]
      grind
     ·rintro q ⟨hq,hin⟩;simp (disch:=omega) only [Zh,Zu,ZA,<- hvs,go_sem,seval];refine ZI ?_ ?_<;>intro h4
      ·have hq2:q<vs.length:=Za
       have htk:vs.take (q+1)=vs.take q++ [nth vs q]:=by rw [Xl hq2,Zi hq2]
       refine gF ?_ ?_<;>intro h5<;>simp (disch:=omega) only [Sh.out h5,go_sem,seval,↓reduceIte]
       ·rw [B4,hbv q hq2 (by simp [Gj,h5])];exact we (by simp (disch:=omega) only [go_sem,seval,↓reduceIte])
       ·refine cD ?_ ?_<;>intro h6<;>simp (disch:=omega) only [Sh.out h6,go_sem,seval]
        ·rw [B4,hbv q hq2 (by simp [Gj,h6])];exact we (by simp (disch:=omega) only [go_sem,seval,↓reduceIte])
        ·have hvo:0<=(nth vs q).order/\(nth vs q).order<(x.orders.length:Int):=⟨Za,Za⟩
         have hvn:(nth vs q).order.toNat<x.orders.length:=Za
         have htw:=mH (rs:=p.routes) (k:=k) (l:=vs.take q) (v:=nth vs q) hvo.1 (b:=NZ p.routes k);rw [<- htk] at htw;have hms:=TD (rs:=p.routes) (k:=k) (l:=vs.take q) (v:=nth vs q) hvo;rw [<- htk] at hms
         have hset:((Wk (QC p.routes k (vs.take q)) x.orders.length).map eI).set (nth vs q).order.toNat (.int .i64 k)=(Wk (QC p.routes k (vs.take (q+1))) x.orders.length).map eI:=by rw [<- hms,Vc];rfl
         have he:Ut ((Wk (QC p.routes k (vs.take q)) x.orders.length).map eI) (nth vs q).order.toNat= .int .i64 (QC p.routes k (vs.take q) (nth vs q).order.toNat):=by rw [YC (by grind),FQ hvn];rfl
         have hrl:=hgl (QC p.routes k (vs.take q));have hrg:=iW (rs:=p.routes) (k:=k) (l:=vs.take q) (o:=(nth vs q).order.toNat);generalize QC p.routes k (vs.take q) (nth vs q).order.toNat=M at he htw hrg;have hnx: ∀j,j<q+1->0<=(nth vs j).order/\(nth vs j).order<(x.orders.length:Int):=Zm.2 ⟨hin,hvo⟩;generalize (NZ p.routes k||Sm p.routes k (vs.take q))=B at htw ⊢
         cases B with
         | true =>
          rw [Bool.true_or] at htw;simp (disch:=first | omega | (simp only [Zw,Zz,ZG,ZK,ZQ,Z4]<;>omega)) only [eq_self,go_sem,seval];exact ⟨q+1,⟨Za,hnx⟩,Za,Weak.mk (by simp (disch:=omega) only [hset,<- htw,<- hvs,go_sem,seval])⟩
         | false =>
          rw [JC] at htw;simp (disch:=first | omega | (simp only [Zw,Zz,ZG,ZK,ZQ,Z4]<;>omega)) only [he,hrl,hvn,eq_self,go_sem,seval,↓reduceIte];refine gT ?_ ?_<;>intro h7<;>simp (disch:=omega) only [Sh.out h7,go_sem,seval,↓reduceIte]
          ·rw [Yk h7,Wt] at htw;simp (disch:=first | omega | (simp only [Zw,Zz,ZG,ZK,ZQ,Z4]<;>omega)) only [he,hrl,hvn,eq_self,go_sem,seval];exact ⟨q+1,⟨Za,hnx⟩,Za,Weak.mk (by simp (disch:=omega) only [hset,<- htw,<- hvs,go_sem,seval])⟩
          ·rw [XK h7,UR] at htw;simp (disch:=first | omega | (simp only [Zw,Zz,ZG,ZK,ZQ,Z4]<;>omega)) only [eq_self,go_sem,seval];exact ⟨q+1,⟨Za,hnx⟩,Za,Weak.mk (by simp (disch:=omega) only [hset,<- htw,<- hvs,go_sem,seval])⟩
      ·have hql:q=vs.length:=Za
       subst hql
       have hgood:Q0 x (nth p.routes k)=false:=by
        rw [Q0,Bool.or_eq_false_iff];refine ⟨by simp [h2,h3],?_⟩;rw [<- hvs,XY];intro v hm;obtain ⟨j,hj,rfl⟩:=ZU.1 hm
        grind [Zi,Gj]
       rw [Xi]
       have e1:QC p.routes k vs=XD p.routes (k+1):=by grind [iV]
       have e2:(NZ p.routes k||Sm p.routes k vs)=NZ p.routes (k+1):=by rw [hvs];rfl
       exact ⟨k+1,⟨Za,Zm.2 ⟨hno,hgood⟩⟩,Za,Weak.mk (by simp (disch:=omega) only [e1,e2,go_sem,seval])⟩
  ·have hkl:k=p.routes.length:=Za
   subst hkl;have hz:=I1 hno
   cases htw:NZ p.routes p.routes.length with
   | true =>
    rw [if_pos htw] at hz;rw [B4,hz];refine Zc ?_;exact we
   | false =>
    rw [if_neg (by grind)] at hz;rw [B4,if_pos hz];simp (disch:=first | omega | (simp only [Zw,Zz,ZG,ZK,ZQ,Z4]<;>omega)) only [hgl,eq_self,go_sem,seval,↓reduceIte];refine ZO [26] [3,12,84,85] (fun j:Nat=> [(86,.p (.int .i64 j))]) (fun j=> [Zh x,Zu p,.elems 1 [.int .i64 (-1)],.elems 1 ((Wk (fun o=>if o<j then Ju p.routes (XD p.routes p.routes.length o) else XD p.routes p.routes.length o) x.orders.length).map eI)]) (fun j=>j<=x.orders.length) (fun j=>x.orders.length-j) 0 Zb (Weak.mk ?_) ?_
    ·refine Wz ?_;simp
    ·intro j hj;have hrl:=hgl (fun o=>if o<j then Ju p.routes (XD p.routes p.routes.length o) else XD p.routes p.routes.length o);refine Wz ?_;refine cD ?_ ?_<;>intro h2<;>simp (disch:=omega) only [Sh.out h2,go_sem,seval,↓reduceIte]
     ·have hj2:j<x.orders.length:=Za
      have hrg:=QR (rs:=p.routes) (o:=j) p.routes.length
      have he:Ut ((Wk (fun o=>if o<j then Ju p.routes (XD p.routes p.routes.length o) else XD p.routes p.routes.length o) x.orders.length).map eI) j= .int .i64 (XD p.routes p.routes.length j):=by rw [YC Za,FQ hj2,if_neg Za];rfl
      have hset:((Wk (fun o=>if o<j then Ju p.routes (XD p.routes p.routes.length o) else XD p.routes p.routes.length o) x.orders.length).map eI).set j (.int .i64 (Ju p.routes (XD p.routes p.routes.length j)))=(Wk (fun o=>if o<j+1 then Ju p.routes (XD p.routes p.routes.length o) else XD p.routes p.routes.length o) x.orders.length).map eI:=by
       rw [show PV.int .i64 (Ju p.routes (XD p.routes p.routes.length j))=eI (Ju p.routes (XD p.routes p.routes.length j)) from rfl,<- Vc,Ny]
       grind
      have hsame:XD p.routes p.routes.length j<0->(Wk (fun o=>if o<j+1 then Ju p.routes (XD p.routes p.routes.length o) else XD p.routes p.routes.length o) x.orders.length)=(Wk (fun o=>if o<j then Ju p.routes (XD p.routes p.routes.length o) else XD p.routes p.routes.length o) x.orders.length):=fun h=>by
       refine Eu fun o _=> ?_
       by_cases c:o=j
       ·subst c;rw [if_pos Za,if_neg Za,Ju,if_neg Za];omega
       omega
      simp (disch:=first | omega | (simp only [Zw,Zz,ZG,ZK,ZQ,Z4]<;>omega)) only [he,hrl,hj2,eq_self,go_sem,seval,↓reduceIte];generalize hL:XD p.routes p.routes.length j=L at he hset hsame hrg ⊢;refine ZI ?_ ?_<;>intro h3
      ·have hty:Ju p.routes L=(nth p.routes L.toNat).typ:=by rw [Ju,if_pos h3]
       have hlt:L<(p.routes.length:Int):=hrg.2;rw [hty] at hset;simp (disch:=first | omega | (simp only [Zw,Zz,ZG,ZK,ZQ,Z4]<;>omega)) only [eq_self,go_sem,seval];exact ⟨j+1,Za,Za,Weak.mk (by simp (disch:=omega) only [hset,go_sem,seval])⟩
      ·exact ⟨j+1,Za,Za,Weak.mk (by simp (disch:=omega) only [hsame Za,go_sem,seval])⟩
     ·have hjl:j=x.orders.length:=Za
      have hfin:Wk (fun o=>if o<j then Ju p.routes (XD p.routes p.routes.length o) else XD p.routes p.routes.length o) x.orders.length=DV x p:=Eu fun o ho=>Za
      rw [hfin];have hkl:=Fm (x:=x) (p:=p);refine Zq (Weak.fz (o:=3) (by rfl)) (Zg [] _ _ _ _ (Vm ?_));rw [if_pos hkl];exact we
theorem Zh4 {α:Type} [Inhabited α] {l:List α} {k:Nat} (h:k<l.length):(l.take (k+1)).drop k= [nth l k]:=by
 grind [fE]
theorem iH {x:Inst} {p:Pln} {o:Nat} (hno: ∀j,j<p.routes.length->Q0 x (nth p.routes j)=false) (h:2<=nW p.routes (o:Int) p.routes.length):Wq x p=6:=by
 rw [I1 hno,if_pos];refine (Ez fun j hj v hv=>((Q1 (hno j hj)).2 v hv).1).2 ⟨o,h,?_⟩
 grind [QD]
theorem Tt {x:Inst} {p:Pln} (hno: ∀j,j<p.routes.length->Q0 x (nth p.routes j)=false) (h: ∀o:Nat,o<x.orders.length->nW p.routes (o:Int) p.routes.length<=1):Wq x p=0:=by
 rw [I1 hno,if_neg];intro h2;obtain ⟨o,h3,j,hj,h4⟩:=(Ez fun j hj v hv=>((Q1 (hno j hj)).2 v hv).1).1 h2;obtain ⟨v,hv,e⟩:=Z6.1 h4;have:=(Q1 (hno j hj)).2 v hv
 grind
theorem Py (x:Inst) (p:Pln) (hn:x.orders.length<=1048576) (ht:x.types.length<=1048576) (hr:p.routes.length<=1048576) (hv: ∀r∈p.routes,r.visits.length<=1048576) :
  PC 132 [.p (ZE x),.p (Wh p)] (.int .i64 (Wq x p)):=by
 refine Zd Tryz.func132 rfl ZaE ?_;simp (disch:=omega) only [Tryz.f132,go_sem,seval];refine Zk [2,3] (fun k:Nat=> [(5,.p (.int .i64 k))]) (fun _=> [Zh x,Zu p]) (fun k=>k<=p.routes.length/\ ∀j,j<k->Q0 x (nth p.routes j)=false) (fun k=>p.routes.length-k) 0 Zb (Weak.mk ?_) ?_
 ·simp (disch:=omega) only [Zh,Zu,go_sem,seval]
 ·rintro k ⟨hk,hno⟩;refine Wz ?_;refine cD ?_ ?_<;>intro h1<;>simp (disch:=omega) only [Sh.out h1,go_sem,seval,↓reduceIte]
  ·have hk2:k<p.routes.length:=Za
   have hvl:=hv _ (Zo hk2);have hbt:(nth p.routes k).typ<0\/(x.types.length:Int)<=(nth p.routes k).typ->Wq x p=2:=fun h=>B3 hk2 (by simp_all [Q0]);have hbv: ∀q,q<(nth p.routes k).visits.length->Gj x.orders.length (nth (nth p.routes k).visits q)=true->Wq x p=2:=fun q hq h=>B3 hk2 (by rw [Q0,Wc];grind [Zo]);refine Xr (Zc ?_);refine gF ?_ ?_<;>intro h2<;>simp (disch:=omega) only [Sh.out h2,go_sem,seval,↓reduceIte]
   ·grind
   ·refine cD ?_ ?_<;>intro h3<;>simp (disch:=omega) only [Sh.out h3,go_sem,seval]
    ·grind
    ·refine Zk [2,3,5] (fun q:Nat=> [(6,.p (.int .i64 q))]) (fun q=> [Zh x,Zu p]) (fun q=>q<=(nth p.routes k).visits.length/\ ∀j,j<q->Gj x.orders.length (nth (nth p.routes k).visits j)=false) (fun q=>(nth p.routes k).visits.length-q) 0 Zb (Weak.mk ?_) ?_
     ·simp (disch:=omega) only [Zh,Zu,go_sem,seval]
     ·rintro q ⟨hq,hin⟩;refine Wz ?_;refine ZI ?_ ?_<;>intro h4
      ·have hq2:q<(nth p.routes k).visits.length:=Za
       refine Xr (Zc ?_);refine gF ?_ ?_<;>intro h5<;>simp (disch:=omega) only [Sh.out h5,go_sem,seval,↓reduceIte]
       ·grind [Gj]
       ·refine ZI ?_ ?_<;>intro h6
        ·grind [Gj]
        ·exact ⟨q+1,⟨Za,Zm.2 ⟨hin,by simp [Gj];omega⟩⟩,Za,wk⟩
      ·have hql:q=(nth p.routes k).visits.length:=Za
       have hgood:Q0 x (nth p.routes k)=false:=by
        rw [Q0,Bool.or_eq_false_iff];refine ⟨by simp [h2,h3],?_⟩;rw [XY];intro v hm;obtain ⟨j,hj,rfl⟩:=ZU.1 hm
        grind [Zi]
       exact ⟨k+1,⟨Za,Zm.2 ⟨hno,hgood⟩⟩,Za,wk⟩
  ·have hkl:k=p.routes.length:=Za
   subst hkl;refine Zk [2,3] (fun i:Nat=> [(7,.p (.int .i64 i))]) (fun _=> [Zh x,Zu p]) (fun i=>i<=x.orders.length/\ ∀j,j<i->nW p.routes (j:Nat) p.routes.length<=1) (fun i=>x.orders.length-i) 0 Zb (Weak.mk ?_) ?_
   ·simp (disch:=omega) only [Zh,Zu,go_sem,seval]
   ·rintro i ⟨hi,hone⟩;refine Wz ?_;refine cD ?_ ?_<;>intro h2<;>simp (disch:=omega) only [Sh.out h2,go_sem,seval,↓reduceIte]
    ·have hi2:i<x.orders.length:=Za
     refine Zk [2,3,7] (fun k:Nat=> [(8,.p (.int .i64 (nW p.routes (i:Int) k))),(9,.p (.int .i64 k))]) (fun _=> [Zh x,Zu p]) (fun k=>k<=p.routes.length) (fun k=>p.routes.length-k) 0 Zb (Weak.mk ?_) ?_
     ·simp (disch:=omega) only [Zh,Zu,nW,go_sem,seval]
     ·intro k hk;have hnl:=wG (rs:=p.routes) (o:=(i:Int)) k;refine Wz ?_;refine cD ?_ ?_<;>intro h3<;>simp (disch:=omega) only [Sh.out h3,go_sem,seval,↓reduceIte]
      ·have hk2:k<p.routes.length:=Za
       have hty:=(Q1 (hno k hk2)).1;have ck:=HO ⟨p.routes_c&&decide ((k:Int)+1=(p.routes.length:Int)),[nth p.routes k],true,[]⟩ (i:Int) Zb (fun r hr=>by grind [Zo]);rw [Zh4 hk2]
       by_cases c:hasO (nth p.routes k).visits (i:Int)=true
       ·rw [show Jt [nth p.routes k] (i:Int)=(nth p.routes k).typ from by rw [Jt,if_pos c]] at ck
        have hs:nW p.routes (i:Int) (k+1)=nW p.routes (i:Int) k+1:=by rw [nW,if_pos c]
        refine (ck).use (Zc ?_);refine ZI ?_ ?_<;>intro h5
        ·exact ⟨k+1,Za,Za,Weak.mk (by simp (disch:=omega) only [hs,go_sem,seval])⟩
        ·omega
       ·rw [show Jt [nth p.routes k] (i:Int)= -1 from by simp_all [Jt]] at ck
        have hs:nW p.routes (i:Int) (k+1)=nW p.routes (i:Int) k:=by simp_all [nW]
        refine (ck).use (Zc ?_);exact ⟨k+1,Za,Za,Weak.mk (by simp (disch:=omega) only [hs,go_sem,seval])⟩
      ·have hkl:k=p.routes.length:=Za
       subst hkl;refine ZI ?_ ?_<;>intro h4
       ·rw [iH hno (o:=i) Za]
       ·exact ⟨i+1,⟨Za,Zm.2 ⟨hone,Za⟩⟩,Za,wk⟩
    ·have hil:i=x.orders.length:=Za
     simp_all [Tt]
theorem aK {f:Nat->Int} {n:Nat} :Wk f (n+1)=Wk f n++ [f n]:=by simp [Wk,Yv]
theorem Pn (x:Inst) (p:Pln) (hn:x.orders.length<=1048576) (ht:x.types.length<=1048576) (hr:p.routes.length<=1048576) (hv: ∀r∈p.routes,r.visits.length<=1048576) :
  ACalls Tryz.prog 81 [.p (ZE x),.p (Wh p)] [] fun y H'=>y=B4 x p/\H'= []:=by
 have cw:=Py x p hn ht hr hv;have ck:=fun o=>HO p o hr hv;refine Zf [5] Tryz.func81 rfl Zi2 ?_;simp (disch:=omega) only [Tryz.f81,go_sem,seval];refine (cw).use (Zc ?_)
 by_cases h0:Wq x p=0
 ·rw [B4,if_pos h0,h0];refine Zc ?_;refine Zq (Weak.ofNil 7 1 (by simp (disch:=omega) only [go_sem,seval]) Zb (Weak.refl _ _ _)) ?_;refine Zg [9] _ _ _ _ (Zc ?_);have hf:=iL h0;refine ZO [9] [2,3] (fun q:Nat×List Int=> [(7,.sl 2 0 q.2.length q.2.length),(8,.p (.int .i64 q.1))]) (fun q=> [Zh x,Zu p,.elems 1 (q.2.map eI)]) (fun q=>q.1<=x.orders.length/\q.2=Wk (fun i=>Jt p.routes (i:Int)) q.1) (fun q=>x.orders.length-q.1) (0,[]) ⟨Zb,by simp [Wk]⟩ (Weak.mk ?_) ?_
  ·simp (disch:=omega) only [Zh,Zu,go_sem,seval]
  ·rintro ⟨k,m⟩ ⟨hk,hm⟩;simp only at hk hm
   have hml:m.length=k:=by rw [hm];exact FP
   refine Wz ?_;refine cD ?_ ?_<;>intro h<;>simp (disch:=omega) only [Sh.out h,go_sem,seval,↓reduceIte]
   ·have hk2:k<x.orders.length:=Za
    refine (ck (k:Int)).use (Zc ?_);exact ⟨(k+1,m++ [Jt p.routes (k:Int)]),⟨Za,by grind [aK]⟩,Za,wk⟩
   ·have hkl:k=x.orders.length:=Za
    subst hkl;rw [hf] at hm;subst hm;refine Zq (Weak.fz (o:=2) (by rfl)) (Zg [] _ _ _ _ (Vm ?_));exact we
 ·rw [B4,if_neg h0];have hE: ¬(Wq x p=0):=h0;refine cD ?_ ?_<;>intro h1<;>simp (disch:=omega) only [Sh.out h1,go_sem,seval]
  ·exact we
  ·omega
end Go.Proofs.YtiigdaohjanidaaGreatDoor.K
