/- Declarations that the closing texts need, part 13: joined by tools/slim.py. -/
import Derived.Test.YtmbelkfkhclnkaaGreatDoorYT12
set_option linter.unusedVariables false
set_option linter.unusedSimpArgs false
namespace Go.Proofs.YtmbelkfkhclnkaaGreatDoor.K
open Go Go.AM Go.Proofs
set_option maxRecDepth 8000
set_option maxHeartbeats 8000000
def bX (p:Pln) (i:Nat):Int:=Zv p.routes i+ZU p.unserved i
def Kw (x:Inst) (p:Pln):Bool:=(List.range x.orders.length).any fun i=>decide (1<bX p i)
def Qd (x:Inst) (p:Pln):Bool:=(List.range x.types.length).any fun t=>decide ((nth x.types t).count<XM p.routes t)
def Ku (x:Inst) (p:Pln):Bool:=(List.range x.orders.length).any fun i=>(nth x.orders i).off&&decide (0<ZU p.unserved i)
def C6 (x:Inst) (p:Pln):Bool:=(List.range x.orders.length).any fun i=> !(nth x.orders i).off&&(decide (bX p i=0)||(decide (0<ZU p.unserved i)&&decide ((nth x.orders i).penalty= -1)))
def W8 (x:Inst) (p:Pln):Int :=
 if ¬Kf x p.routes=0 then Kf x p.routes
 else if Uw x p.unserved=false then 2
 else if Kw x p=true then 6
 else if Qd x p=true then 22
 else if Ku x p=true then 9
 else if C6 x p=true then 23
 else 0
theorem U6 {n:Nat} {f g:Nat->Bool} (h: ∀i,i<n->f i=g i):(List.range n).any f=(List.range n).any g:=by
 grind
theorem Ft {rs:List Rte} (i:Nat):0<=Zv rs i/\Zv rs i<=rs.length:=by
 have:=Qb (rs:=rs) (k:=rs.length) i
 grind
theorem Fv {us:List Int} (i:Nat):0<=ZU us i/\ZU us i<=us.length:=by
 have:=Qc (us:=us) (k:=us.length) i
 grind
theorem cE {x:Inst} (hx:InstOk x):x.orders.length<=10:=by have:=hx.orders.1;omega
theorem mO {x:Inst} (hx:InstOk x):x.types.length<=6:=by have:=hx.types.1;simp only [rng,decide_eq_true_eq] at this;omega
theorem O1 (x:Inst) (p:Pln) (hx:InstOk x) (hr:p.routes.length<=1048576) (hu:p.unserved.length<=1048576) (hb: ∀r∈p.routes,Ur r) :
  PC 38 [.p (XQ x),.p (Qg p)] (.int .i64 (W8 x p)):=by
 have hn:=cE hx;have ht:=mO hx;have c2:=fun (hv: ∀r∈p.routes,Inr x r.visits/\r.visits.length<=1048576)=>K2 x p hn hr hu hv;refine Zd [] Tryz.func38 rfl aE ?_;simp (disch:=omega) only [Tryz.f38,go_sem,seval];refine Zm [2,3,13,14] (fun k:Nat=> [(15,.p (.int .i64 k))]) (fun _=> [Zj x,Zy p]) (fun k=>k<=p.routes.length/\ ∀j,j<k->Z2 x (nth p.routes j)=0) (fun k=>p.routes.length-k) 0 Zb (Weak.mk ?_) ?_
 ·simp (disch:=omega) only [Zj,Zy,go_sem,seval]
 ·rintro k ⟨hk,h0⟩;refine QP ?_;refine cD ?_ ?_<;>intro h1<;>simp (disch:=omega) only [Sh.out h1,go_sem,seval,↓reduceIte]
  ·have hk2:k<p.routes.length:=Za
   obtain ⟨b1,b2⟩:=hb _ (Zq hk2);refine (GM x (nth p.routes k) hx b1 b2).use (Zi ?_);refine XL ?_ ?_<;>intro h2
   ·have he:W8 x p=Z2 x (nth p.routes k):=by
     have e:=CP hk2 h0 h2
     simp_all [W8]
    rw [he];exact we
   ·exact ⟨k+1,⟨Za,Zn.2 ⟨h0,Za⟩⟩,Za,wk⟩
  ·have hkl:k=p.routes.length:=Za
   subst hkl;have her:=CQ h0
   have ZO: ∀r∈p.routes,Z2 x r=0:=fun r hr=>by
    obtain ⟨j,hj,rfl⟩:=List.mem_iff_getElem.1 hr
    grind [Zg]
   have hv: ∀r∈p.routes,Inr x r.visits/\r.visits.length<=1048576:=fun r hr=>⟨(Wg (JM (K8 (ZO r hr))).2.1).inr,(hb r hr).1⟩;have hty: ∀r∈p.routes,0<=r.typ/\r.typ<(x.types.length:Int):=fun r hr=>(JM (K8 (ZO r hr))).1;have c2:=K2 x p hn hr hu hv;have cw:=Jn x p Za hr hty;have c0: ¬ ¬Kf x p.routes=0:=fun e=>e her
   have hR: ∀i,0<=Zv p.routes i/\Zv p.routes i<=1048576:=fun i=>by have:=Ft (rs:=p.routes) i;omega
   have hU: ∀i,0<=ZU p.unserved i/\ZU p.unserved i<=1048576:=fun i=>by have:=Fv (us:=p.unserved) i;omega
   have rl:(Zw (Zv p.routes) x.orders.length).length=x.orders.length:=VR;have ul:(Zw (ZU p.unserved) x.orders.length).length=x.orders.length:=VR;have rn: ∀i,i<x.orders.length->nth (Zw (Zv p.routes) x.orders.length) i=Zv p.routes i:=fun i hi=>X4 hi;have un: ∀i,i<x.orders.length->nth (Zw (ZU p.unserved) x.orders.length) i=ZU p.unserved i:=fun i hi=>X4 hi
   by_cases hub:Uw x p.unserved=true
   ·rw [if_pos hub] at c2;refine Ux c2 ?_
    generalize Zw (Zv p.routes) x.orders.length=R at *
    generalize Zw (ZU p.unserved) x.orders.length=U at *
    have c1: ¬Uw x p.unserved=false:=by grind
    refine Zi ?_;have k2:=Ci x p R U Za 85 [.ptr 2 0,.ptr 3 0] (fun i=>decide (1<nth R i+nth U i)) (by rfl) fun i hi=>M3 x p R U _ i Za Za ⟨Za,Za⟩ (by grind) (by grind);rw [show (List.range x.orders.length).any (fun i=>decide (1<nth R i+nth U i))=Kw x p from U6 fun i hi=>by rw [rn i hi,un i hi];rfl] at k2;refine k2.mono ?_;rintro y H' ⟨rfl,rfl⟩;refine AZ ?_
    by_cases g1:Kw x p=true
    ·have hv:W8 x p=6:=by simp_all [W8]
     rw [hv];simp (disch:=omega) only [g1,go_sem,seval];exact we
    ·have g1':Kw x p=false:=by grind
     simp (disch:=omega) only [g1',go_sem,seval];refine (Jn x p Za hr hty).use (Zi ?_)
     by_cases g2:Qd x p=true
     ·have hv:W8 x p=22:=by simp_all [W8]
      rw [hv];unfold Qd at g2;simp (disch:=omega) only [g2,go_sem,seval];exact we
     ·have g2':Qd x p=false:=by grind
      unfold Qd at g2';simp (disch:=omega) only [g2',go_sem,seval];have k3:=Ci x p R U Za 87 [.ptr 3 0] (fun i=>(nth x.orders i).off&&decide (0<nth U i)) (by rfl) fun i hi=>M4 x p R U _ i Za Za;rw [show (List.range x.orders.length).any (fun i=>(nth x.orders i).off&&decide (0<nth U i))=Ku x p from U6 fun i hi=>by rw [un i hi]] at k3;refine k3.mono ?_;rintro y H' ⟨rfl,rfl⟩;refine AZ ?_
      by_cases g3:Ku x p=true
      ·have hv:W8 x p=9:=by simp_all [W8]
       rw [hv];simp (disch:=omega) only [g3,go_sem,seval];exact we
      ·have g3':Ku x p=false:=by grind
       simp (disch:=omega) only [g3',go_sem,seval];have k4:=Ci x p R U Za 88 [.ptr 2 0,.ptr 3 0] (fun i=> !(nth x.orders i).off&&(decide (nth R i+nth U i=0)||(decide (0<nth U i)&&decide ((nth x.orders i).penalty= -1)))) (by rfl) fun i hi=>M5 x p R U _ i Za Za ⟨Za,Za⟩ (by grind) (by grind);rw [show (List.range x.orders.length).any (fun i=> !(nth x.orders i).off&&(decide (nth R i+nth U i=0)||(decide (0<nth U i)&&decide ((nth x.orders i).penalty= -1))))=C6 x p from U6 fun i hi=>by rw [rn i hi,un i hi];rfl] at k4;refine k4.mono ?_
       rintro y H' ⟨rfl,rfl⟩;refine AZ ?_
       by_cases g4:C6 x p=true
       ·have hv:W8 x p=23:=by simp_all [W8]
        rw [hv];simp (disch:=omega) only [g4,go_sem,seval];exact we
       ·have hv:W8 x p=0:=by simp_all [W8]
        rw [hv]
        have g4':C6 x p=false:=by grind
        simp (disch:=omega) only [g4',go_sem,seval];exact we
   ·rw [if_neg hub] at c2;refine Ux c2 ?_
    have c1:Uw x p.unserved=false:=by grind
    have hv:W8 x p=2:=by simp_all [W8]
    rw [hv];refine Zi ?_;exact we
def LZ : Typ:= { name:= [118],count:=1,src:=0,dst:=0,cap_c:=false,cap:= [5],cls:=9,drive:=9,opn:=0,rest:=0,skills:=0,fixed:=0,perMile:=0,perTick:=0,prof:=0 }
def bareI : Inst:= { net:= { places_c:=false,places:= [[97]],arcs_c:=true,arcs:= [] },types_c:=false,types:= [LZ],orders_c:=true,orders:= [],apart_c:=true,apart:= [],before_c:=true,before:= [] }
def Py : Pln:=⟨true,[],true,[]⟩
theorem MW : InstOk bareI:=by
 refine ⟨?_,?_,⟨by simp [bareI],fun i hi=>by simp [bareI] at hi⟩,?_⟩
 ·refine ⟨⟨?_,by simp [bareI]⟩,fun i hi=>by simp [bareI] at hi⟩;refine ⟨by simp [bareI],fun i hi=> ?_⟩
  have:i=0:=by simp [bareI] at hi;omega
  subst this;exact ⟨rfl,fun k hk=>Za⟩
 ·refine ⟨rfl,fun i hi=> ?_⟩
  have:i=0:=by simp [bareI] at hi;omega
  subst this;exact ⟨⟨⟨⟨⟨⟨⟨⟨rfl,fun j hj=>Za⟩,rfl⟩,rfl,rfl⟩,rfl⟩,rfl⟩,rfl,by decide⟩,rfl,rfl⟩,rfl,rfl,rfl,rfl⟩
 ·rfl
theorem MX : PC 39 [] (XQ bareI):=by
 refine Zd [1] Tryz.func39 rfl aF ?_;simp (disch:=omega) only [Tryz.f39,go_sem,seval];refine ZW (KW 1 2 ?_);simp (disch:=omega) only [go_sem,seval];refine ⟨_,_,Weak.fz (o:=1) (by rfl),?_⟩;simp (disch:=omega) only [List.map_cons,List.map_nil,List.set_cons_succ,List.set_cons_zero,List.cons_append,List.nil_append,go_sem,seval];refine ⟨_,_,Weak.fz (o:=2) (by rfl),?_⟩;simp (disch:=omega) only [List.map_cons,List.map_nil,List.set_cons_succ,List.set_cons_zero,List.cons_append,List.nil_append,go_sem,seval];refine Zs (Weak.fz (o:=3) (by rfl)) ?_
 refine Ze [] _ _ _ _ ?_;simp (disch:=omega) only [List.map_cons,List.map_nil,List.set_cons_succ,List.set_cons_zero,go_sem,seval];exact we (by simp (disch:=omega) only [bareI,LZ,List.map_cons,List.map_nil,go_sem,seval])
theorem Fp : W8 bareI Py=0:=rfl
end Go.Proofs.YtmbelkfkhclnkaaGreatDoor.K
