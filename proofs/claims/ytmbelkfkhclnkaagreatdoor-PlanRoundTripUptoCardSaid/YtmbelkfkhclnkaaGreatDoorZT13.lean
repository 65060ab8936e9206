/- Declarations that the closing texts need, part 13: joined by tools/slim.py. -/
import Derived.Test.YtmbelkfkhclnkaaGreatDoorZT12
set_option linter.unusedVariables false
set_option linter.unusedSimpArgs false
namespace Go.Proofs.YtmbelkfkhclnkaaGreatDoor.K
open Go Go.AM Go.Proofs
set_option maxRecDepth 8000
set_option maxHeartbeats 8000000
def XP (x:Inst) (p:Pln) (R U:List Int):List AM.Obj:= [Zj x,Zv p,.cells [.p (.list false (R.map eI))],.cells [.p (.list false (U.map eI))]]
theorem Bm {P Q:Prop} (h:Q) (e:Q->P:=by intro h;simp (disch:=omega) only [XP,Zj,Zv,go_sem,seval];exact h):P:=e h
theorem CE (x:Inst) (p:Pln) (R U:List Int) (ho:x.orders.length<=1048576) (g:FuncId) (caps:List V) (f:Nat->Bool) (hc:ZA 4 caps=true)
  (hg: ∀i,i<x.orders.length->ACalls Tryz.prog g (.p (.int .i64 (i:Nat)):: .p (Wr (nth x.orders i))::caps) (XP x p R U) fun y H'=>y= .p (.bool (f i))/\H'=XP x p R U) :
  ACalls Tryz.prog 84 [.fn (.func g) [] caps,.ptr 0 0] (XP x p R U) fun y H'=>y= .p (.bool ((List.range x.orders.length).any f))/\H'=XP x p R U:=by
 refine Zd [] Tryz.func84 rfl cC ?_;simp (disch:=omega) only [Tryz.f84,XP,Zj,Zv,go_sem,seval];refine Zl [0,7,8] (fun k:Nat=> [(9,.p (.int .i64 k))]) (fun _=>XP x p R U) (fun k=>k<=x.orders.length/\ ∀j,j<k->f j=false) (fun k=>x.orders.length-k) 0 Zb (Weak.mk ?_) ?_
 ·simp (disch:=omega) only [XP,Zj,Zv,hc,go_sem,seval,↓reduceIte]
 ·rintro k ⟨hk,hno⟩;refine Bm ?_;refine cD ?_ ?_<;>intro h1<;>simp (disch:=omega) only [Sh.out h1,go_sem,seval,↓reduceIte]
  ·have hk2:k<x.orders.length:=Za
   have hgk:=hg k hk2;refine hgk.useP (L:= [_]) (by rfl) ?_ (show ZA 4 (_::_::caps)=true by simp (disch:=omega) only [hc,go_sem,seval]) (by rfl);refine Bm ?_
   cases hf:f k with
   | true=> 
    have:(List.range x.orders.length).any f=true:=List.any_eq_true.2 ⟨k,List.mem_range.2 hk2,hf⟩;rw [this];refine Zi ?_;exact we
   | false =>
    refine Zi ?_;exact ⟨k+1,⟨Za,Zo.2 ⟨hno,hf⟩⟩,Za,Weak.mk (by simp (disch:=omega) only [hc,go_sem,seval])⟩
  ·have:(List.range x.orders.length).any f=false:=by
    grind
   rw [this];exact we
theorem Nr (x:Inst) (p:Pln) (R U:List Int) (o:Ord) (i:Nat) (hi:i<R.length) (hi2:i<U.length) (hl:R.length<=1048576/\U.length<=1048576) (hr:0<=nth R i/\nth R i<=1048576) (hu:0<=nth U i/\nth U i<=1048576) :
  ACalls Tryz.prog 85 [.p (.int .i64 (i:Nat)),.p (Wr o),.ptr 2 0,.ptr 3 0] (XP x p R U) fun y H'=>y= .p (.bool (decide (1<nth R i+nth U i)))/\H'=XP x p R U:=by
 refine Zd [] Tryz.func85 rfl cE ?_;simp (disch:=omega) only [Tryz.f85,XP,Zj,Zv,go_sem,seval];refine Yl (Zi ?_);exact we
theorem Ns (x:Inst) (p:Pln) (R U:List Int) (o:Ord) (i:Nat) (hi2:i<U.length) (hl:U.length<=1048576) :
  ACalls Tryz.prog 87 [.p (.int .i64 (i:Nat)),.p (Wr o),.ptr 3 0] (XP x p R U) fun y H'=>y= .p (.bool (o.off&&decide (0<nth U i)))/\H'=XP x p R U:=by
 refine Zd [] Tryz.func87 rfl cG ?_;simp (disch:=omega) only [Tryz.f87,XP,Zj,Zv,go_sem,seval];refine gT ?_ ?_<;>intro h<;>simp (disch:=omega) only [Sh.out h,go_sem,seval,↓reduceIte]
 ·exact ⟨.p (.bool (decide (0<nth U i))),XP x p R U,Weak.mk (by simp (disch:=omega) only [XP,Zj,Zv,go_sem,seval]),by simp [],rfl⟩
 ·exact ⟨.p (.bool false),XP x p R U,Weak.mk (by simp (disch:=omega) only [XP,Zj,Zv,go_sem,seval]),by simp [],rfl⟩
theorem Nt (x:Inst) (p:Pln) (R U:List Int) (o:Ord) (i:Nat) (hi:i<R.length) (hi2:i<U.length) (hl:R.length<=1048576/\U.length<=1048576) (hr:0<=nth R i/\nth R i<=1048576) (hu:0<=nth U i/\nth U i<=1048576) :
  ACalls Tryz.prog 88 [.p (.int .i64 (i:Nat)),.p (Wr o),.ptr 2 0,.ptr 3 0] (XP x p R U) fun y H'=>y= .p (.bool (!o.off&&(decide (nth R i+nth U i=0)||(decide (0<nth U i)&&decide (o.penalty= -1)))))/\H'=XP x p R U:=by
 refine Zd [] Tryz.func88 rfl cH ?_;simp (disch:=omega) only [Tryz.f88,XP,Zj,Zv,go_sem,seval];refine Yl (Zi ?_);refine gT ?_ ?_<;>intro h1<;>simp (disch:=omega) only [Sh.out h1,go_sem,seval,↓reduceIte]
 ·refine gF ?_ ?_<;>intro h2<;>simp (disch:=omega) only [Sh.out h2,go_sem,seval,↓reduceIte]
  ·exact ⟨.p (.bool true),XP x p R U,Weak.mk (by simp (disch:=omega) only [XP,Zj,Zv,go_sem,seval]),by grind,rfl⟩
  ·refine gT ?_ ?_<;>intro h3<;>simp (disch:=omega) only [Sh.out h3,go_sem,seval,↓reduceIte]
   ·exact ⟨.p (.bool (decide (o.penalty= -1))),XP x p R U,Weak.mk (by simp (disch:=omega) only [XP,Zj,Zv,go_sem,seval]),by grind,rfl⟩
   ·exact ⟨.p (.bool false),XP x p R U,Weak.mk (by simp (disch:=omega) only [XP,Zj,Zv,go_sem,seval]),by grind,rfl⟩
 ·exact ⟨.p (.bool false),XP x p R U,Weak.mk (by simp (disch:=omega) only [XP,Zj,Zv,go_sem,seval]),by rfl,rfl⟩
def dC (p:Pln) (i:Nat):Int:=Zu p.routes i+ZV p.unserved i
def KM (x:Inst) (p:Pln):Bool:=(List.range x.orders.length).any fun i=>decide (1<dC p i)
def Qr (x:Inst) (p:Pln):Bool:=(List.range x.types.length).any fun t=>decide ((nth x.types t).count<XR p.routes t)
def KK (x:Inst) (p:Pln):Bool:=(List.range x.orders.length).any fun i=>(nth x.orders i).off&&decide (0<ZV p.unserved i)
def Dt (x:Inst) (p:Pln):Bool:=(List.range x.orders.length).any fun i=> !(nth x.orders i).off&&(decide (dC p i=0)||(decide (0<ZV p.unserved i)&&decide ((nth x.orders i).penalty= -1)))
def W9 (x:Inst) (p:Pln):Int :=
 if ¬Kt x p.routes=0 then Kt x p.routes
 else if UM x p.unserved=false then 2
 else if KM x p=true then 6
 else if Qr x p=true then 22
 else if KK x p=true then 9
 else if Dt x p=true then 23
 else 0
theorem Qk {n:Nat} {f g:Nat->Bool} (h: ∀i,i<n->f i=g i):(List.range n).any f=(List.range n).any g:=by
 grind
theorem FL {rs:List Rte} (i:Nat):0<=Zu rs i/\Zu rs i<=rs.length:=by
 have:=Qp (rs:=rs) (k:=rs.length) i
 grind
theorem FN {us:List Int} (i:Nat):0<=ZV us i/\ZV us i<=us.length:=by
 have:=Qq (us:=us) (k:=us.length) i
 grind
theorem dI {x:Inst} (hx:InstOk x):x.orders.length<=10:=by have:=hx.orders.1;omega
theorem oA {x:Inst} (hx:InstOk x):x.types.length<=6:=by have:=hx.types.1;simp only [rng,decide_eq_true_eq] at this;omega
theorem Pn (x:Inst) (p:Pln) (hx:InstOk x) (hr:p.routes.length<=1048576) (hu:p.unserved.length<=1048576) (hb: ∀r∈p.routes,UH r) :
  PC 38 [.p (XW x),.p (Va p)] (.int .i64 (W9 x p)):=by
 have hn:=dI hx;have ht:=oA hx;have c2:=fun (hv: ∀r∈p.routes,Inr x r.visits/\r.visits.length<=1048576)=>Aj x p hn hr hu hv;refine Zd [] Tryz.func38 rfl bJ ?_;simp (disch:=omega) only [Tryz.f38,go_sem,seval];refine Zl [2,3,13,14] (fun k:Nat=> [(15,.p (.int .i64 k))]) (fun _=> [Zj x,Zv p]) (fun k=>k<=p.routes.length/\ ∀j,j<k->Z6 x (nth p.routes j)=0) (fun k=>p.routes.length-k) 0 Zb (Weak.mk ?_) ?_
 ·simp (disch:=omega) only [Zj,Zv,go_sem,seval]
 ·rintro k ⟨hk,h0⟩;refine Q6 ?_;refine cD ?_ ?_<;>intro h1<;>simp (disch:=omega) only [Sh.out h1,go_sem,seval,↓reduceIte]
  ·have hk2:k<p.routes.length:=Za
   obtain ⟨b1,b2⟩:=hb _ (Zp hk2);refine (G7 x (nth p.routes k) hx b1 b2).use (Zi ?_);refine XQ ?_ ?_<;>intro h2
   ·have he:W9 x p=Z6 x (nth p.routes k):=by
     have e:=Da hk2 h0 h2
     simp_all [W9]
    rw [he];exact we
   ·exact ⟨k+1,⟨Za,Zo.2 ⟨h0,Za⟩⟩,Za,wk⟩
  ·have hkl:k=p.routes.length:=Za
   subst hkl;have her:=Db h0
   have Z5: ∀r∈p.routes,Z6 x r=0:=fun r hr=>by
    obtain ⟨j,hj,rfl⟩:=List.mem_iff_getElem.1 hr
    grind [Zh]
   have hv: ∀r∈p.routes,Inr x r.visits/\r.visits.length<=1048576:=fun r hr=>⟨(Wg (JY (Ar (Z5 r hr))).2.1).inr,(hb r hr).1⟩;have hty: ∀r∈p.routes,0<=r.typ/\r.typ<(x.types.length:Int):=fun r hr=>(JY (Ar (Z5 r hr))).1;have c2:=Aj x p hn hr hu hv;have cw:=Jx x p Za hr hty;have c0: ¬ ¬Kt x p.routes=0:=fun e=>e her
   have hR: ∀i,0<=Zu p.routes i/\Zu p.routes i<=1048576:=fun i=>by have:=FL (rs:=p.routes) i;omega
   have hU: ∀i,0<=ZV p.unserved i/\ZV p.unserved i<=1048576:=fun i=>by have:=FN (us:=p.unserved) i;omega
   have rl:(Zx (Zu p.routes) x.orders.length).length=x.orders.length:=VX;have ul:(Zx (ZV p.unserved) x.orders.length).length=x.orders.length:=VX;have rn: ∀i,i<x.orders.length->nth (Zx (Zu p.routes) x.orders.length) i=Zu p.routes i:=fun i hi=>X8 hi;have un: ∀i,i<x.orders.length->nth (Zx (ZV p.unserved) x.orders.length) i=ZV p.unserved i:=fun i hi=>X8 hi
   by_cases hub:UM x p.unserved=true
   ·rw [if_pos hub] at c2;refine Q9 c2 ?_
    generalize Zx (Zu p.routes) x.orders.length=R at *
    generalize Zx (ZV p.unserved) x.orders.length=U at *
    have c1: ¬UM x p.unserved=false:=by grind
    refine Zi ?_;have k2:=CE x p R U Za 85 [.ptr 2 0,.ptr 3 0] (fun i=>decide (1<nth R i+nth U i)) (by rfl) fun i hi=>Nr x p R U _ i Za Za ⟨Za,Za⟩ (by grind) (by grind);rw [show (List.range x.orders.length).any (fun i=>decide (1<nth R i+nth U i))=KM x p from Qk fun i hi=>by rw [rn i hi,un i hi];rfl] at k2;refine k2.mono ?_;rintro y H' ⟨rfl,rfl⟩;refine Bm ?_
    by_cases g1:KM x p=true
    ·have hv:W9 x p=6:=by simp_all [W9]
     rw [hv];simp (disch:=omega) only [g1,go_sem,seval];exact we
    ·have g1':KM x p=false:=by grind
     simp (disch:=omega) only [g1',go_sem,seval];refine (Jx x p Za hr hty).use (Zi ?_)
     by_cases g2:Qr x p=true
     ·have hv:W9 x p=22:=by simp_all [W9]
      rw [hv];unfold Qr at g2;simp (disch:=omega) only [g2,go_sem,seval];exact we
     ·have g2':Qr x p=false:=by grind
      unfold Qr at g2';simp (disch:=omega) only [g2',go_sem,seval];have k3:=CE x p R U Za 87 [.ptr 3 0] (fun i=>(nth x.orders i).off&&decide (0<nth U i)) (by rfl) fun i hi=>Ns x p R U _ i Za Za;rw [show (List.range x.orders.length).any (fun i=>(nth x.orders i).off&&decide (0<nth U i))=KK x p from Qk fun i hi=>by rw [un i hi]] at k3;refine k3.mono ?_;rintro y H' ⟨rfl,rfl⟩;refine Bm ?_
      by_cases g3:KK x p=true
      ·have hv:W9 x p=9:=by simp_all [W9]
       rw [hv];simp (disch:=omega) only [g3,go_sem,seval];exact we
      ·have g3':KK x p=false:=by grind
       simp (disch:=omega) only [g3',go_sem,seval];have k4:=CE x p R U Za 88 [.ptr 2 0,.ptr 3 0] (fun i=> !(nth x.orders i).off&&(decide (nth R i+nth U i=0)||(decide (0<nth U i)&&decide ((nth x.orders i).penalty= -1)))) (by rfl) fun i hi=>Nt x p R U _ i Za Za ⟨Za,Za⟩ (by grind) (by grind);rw [show (List.range x.orders.length).any (fun i=> !(nth x.orders i).off&&(decide (nth R i+nth U i=0)||(decide (0<nth U i)&&decide ((nth x.orders i).penalty= -1))))=Dt x p from Qk fun i hi=>by rw [rn i hi,un i hi];rfl] at k4;refine k4.mono ?_
       rintro y H' ⟨rfl,rfl⟩;refine Bm ?_
       by_cases g4:Dt x p=true
       ·have hv:W9 x p=23:=by simp_all [W9]
        rw [hv];simp (disch:=omega) only [g4,go_sem,seval];exact we
       ·have hv:W9 x p=0:=by simp_all [W9]
        rw [hv]
        have g4':Dt x p=false:=by grind
        simp (disch:=omega) only [g4',go_sem,seval];exact we
   ·rw [if_neg hub] at c2;refine Q9 c2 ?_
    have c1:UM x p.unserved=false:=by grind
    have hv:W9 x p=2:=by simp_all [W9]
    rw [hv];refine Zi ?_;exact we
theorem DE {p:Pln} (hp:p.wf 1048576): ∀r∈p.routes,UH r:=fun r hr=>by
 obtain ⟨_,_,w1,_,w2,_⟩:=hp.2.1 r hr;exact ⟨w2,w1⟩
def lB (p:Pln):Prop:=p.routes.length<=12/\p.unserved.length<=24/\ ∀r∈p.routes,r.visits.length<=24/\r.rests.length<=24
theorem FZ (p:Pln) (hp:p.wf 1048576):ACalls Tryz.prog 15 [.p (Va p)] [] fun y H'=> ∃b:Bool,(b=true->lB p)/\y= .p (.bool b)/\H'= []:=by
 have hr:=hp.1;have hv:=DE hp;have hu:=hp.2.2.1;refine ACalls.pureE (Xa Tryz.func15 rfl aZ (Ze [] _ _ _ _ ?_));simp (disch:=omega) only [Tryz.f15,go_sem,seval];refine gF ?_ ?_<;>intro h1<;>simp (disch:=omega) only [Sh.out h1,go_sem,seval]
 ·exact ⟨false,Zb,rfl⟩
 ·refine cD ?_ ?_<;>intro h2<;>simp (disch:=omega) only [Sh.out h2,go_sem,seval]
  ·exact ⟨false,Zb,rfl⟩
  ·refine Zl [1] (fun k:Nat=> [(3,.p (.int .i64 k))]) (fun _=> [Zv p]) (fun k=>k<=p.routes.length/\ ∀j,j<k->(nth p.routes j).visits.length<=24/\(nth p.routes j).rests.length<=24) (fun k=>p.routes.length-k) 0 Zb (Weak.mk ?_) ?_
   ·simp (disch:=omega) only [Zv,go_sem,seval]
   ·rintro k ⟨hk,hno⟩;simp (disch:=omega) only [Zv,go_sem,seval];refine cD ?_ ?_<;>intro h3<;>simp (disch:=omega) only [Sh.out h3,go_sem,seval]
    ·have hk2:k<p.routes.length:=Za
     obtain ⟨w1,w2⟩:=hv _ (Zp hk2);refine gF ?_ ?_<;>intro h4<;>simp (disch:=omega) only [Sh.out h4,go_sem,seval]
     ·exact ⟨false,Zb,rfl⟩
     ·refine cD ?_ ?_<;>intro h5<;>simp (disch:=omega) only [Sh.out h5,go_sem,seval]
      ·exact ⟨false,Zb,rfl⟩
      ·exact ⟨k+1,⟨Za,Zo.2 ⟨hno,Za,Za⟩⟩,Za,Weak.mk (by simp (disch:=omega) only [Zv,go_sem,seval])⟩
    ·refine ⟨true,fun _=>⟨Za,Za,fun r hr=> ?_⟩,rfl⟩;obtain ⟨j,hj,rfl⟩:=List.mem_iff_getElem.1 hr;rw [<- Zh hj];exact hno j Za
def Ml : Typ:= { name:= [118],count:=1,src:=0,dst:=0,cap_c:=false,cap:= [5],cls:=9,drive:=9,opn:=0,rest:=0,skills:=0,fixed:=0,perMile:=0,perTick:=0,prof:=0 }
def bareI : Inst:= { net:= { places_c:=false,places:= [[97]],arcs_c:=true,arcs:= [] },types_c:=false,types:= [Ml],orders_c:=true,orders:= [],apart_c:=true,apart:= [],before_c:=true,before:= [] }
def PX : Pln:=⟨true,[],true,[]⟩
theorem Nl : InstOk bareI:=by
 refine ⟨?_,?_,⟨by simp [bareI],fun i hi=>by simp [bareI] at hi⟩,?_⟩
 ·refine ⟨⟨?_,by simp [bareI]⟩,fun i hi=>by simp [bareI] at hi⟩;refine ⟨by simp [bareI],fun i hi=> ?_⟩
  have:i=0:=by simp [bareI] at hi;omega
  subst this;exact ⟨rfl,fun k hk=>Za⟩
 ·refine ⟨rfl,fun i hi=> ?_⟩
  have:i=0:=by simp [bareI] at hi;omega
  subst this;exact ⟨⟨⟨⟨⟨⟨⟨⟨rfl,fun j hj=>Za⟩,rfl⟩,rfl,rfl⟩,rfl⟩,rfl⟩,rfl,by decide⟩,rfl,rfl⟩,rfl,rfl,rfl,rfl⟩
 ·rfl
theorem Nm : PC 39 [] (XW bareI):=by
 refine Zd [1] Tryz.func39 rfl bK ?_;simp (disch:=omega) only [Tryz.f39,go_sem,seval];refine ZX (Ad 1 2 ?_);simp (disch:=omega) only [go_sem,seval];refine ⟨_,_,Weak.fz (o:=1) (by rfl),?_⟩;simp (disch:=omega) only [List.map_cons,List.map_nil,List.set_cons_succ,List.set_cons_zero,List.cons_append,List.nil_append,go_sem,seval];refine ⟨_,_,Weak.fz (o:=2) (by rfl),?_⟩;simp (disch:=omega) only [List.map_cons,List.map_nil,List.set_cons_succ,List.set_cons_zero,List.cons_append,List.nil_append,go_sem,seval];refine Zz (Weak.fz (o:=3) (by rfl)) ?_
 refine Ze [] _ _ _ _ ?_;simp (disch:=omega) only [List.map_cons,List.map_nil,List.set_cons_succ,List.set_cons_zero,go_sem,seval];exact we (by simp (disch:=omega) only [bareI,Ml,List.map_cons,List.map_nil,go_sem,seval])
theorem FI : W9 bareI PX=0:=rfl
end Go.Proofs.YtmbelkfkhclnkaaGreatDoor.K
