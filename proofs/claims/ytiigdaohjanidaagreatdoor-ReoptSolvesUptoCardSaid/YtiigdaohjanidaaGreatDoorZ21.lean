/- Declarations that the closing texts need, part 21: joined by tools/slim.py. -/
import Derived.Test.YtiigdaohjanidaaGreatDoorZ20
set_option linter.unusedVariables false
set_option linter.unusedSimpArgs false
namespace Go.Proofs.YtiigdaohjanidaaGreatDoor.K
open Go Go.AM Go.Proofs
set_option maxRecDepth 8000
set_option maxHeartbeats 8000000
def Sp (p:Pln) (i:Nat):Int:=Je p.routes i+Vo p.unserved i
def Iu (x:Inst) (p:Pln):Bool:=(List.range x.orders.length).any fun i=>decide (1<Sp p i)
def HD (x:Inst) (p:Pln):Bool:=(List.range x.types.length).any fun t=>decide ((nth x.types t).count<D9 p.routes t)
def Iq (x:Inst) (p:Pln):Bool:=(List.range x.orders.length).any fun i=>(nth x.orders i).off&&decide (0<Vo p.unserved i)
def PA (x:Inst) (p:Pln):Bool:=(List.range x.orders.length).any fun i=> !(nth x.orders i).off&&(decide (Sp p i=0)||(decide (0<Vo p.unserved i)&&decide ((nth x.orders i).penalty= -1)))
def chkP (x:Inst) (p:Pln):Int :=
 if ¬errR x p.routes=0 then errR x p.routes
 else if Tl x p.unserved=false then 2
 else if Iu x p=true then 6
 else if HD x p=true then 22
 else if Iq x p=true then 9
 else if PA x p=true then 23
 else 0
theorem bE {rs:List Rte} (i:Nat):0<=Je rs i/\Je rs i<=rs.length:=by
 have:=Le (rs:=rs) (k:=rs.length) i
 grind
theorem bG {us:List Int} (i:Nat):0<=Vo us i/\Vo us i<=us.length:=by
 have:=Lf (us:=us) (k:=us.length) i
 grind
theorem Ke {x:Inst} (hx:InstOk x):x.orders.length<=10:=by have:=hx.orders.1;omega
theorem FN {x:Inst} (hx:InstOk x):x.types.length<=6:=by have:=hx.types.1;simp only [rng,Zr] at this;omega
theorem fK (p:Pln) (i:Nat) (hr:p.routes.length<=1048576) (hu:p.unserved.length<=1048576) (hv: ∀r∈p.routes,r.visits.length<=1048576) :
  PT 47 [.p (Wk p),.p (.int .i64 (i:Nat))] [.p (.int .i64 (Je p.routes i)),.p (.int .i64 (Vo p.unserved i))]:=by
 refine Ze [] Tryz.func47 rfl ZhB ?_;simp (disch:=omega) only [Tryz.f47,go_sem,seval];refine Zi [1,2,7] (fun k:Nat=> [(6,.p (.int .i64 (Je (p.routes.take k) i))),(8,.p (.int .i64 k))]) (fun _=> [Xe p]) (fun k=>k<=p.routes.length) (fun k=>p.routes.length-k) 0 Zb (Weak.mk ?_) ?_
 ·simp (disch:=omega) only [Xe,Je,Wx,List.countP_nil,go_sem,seval]
 ·intro k hk;refine Zb7 ?_;refine cD ?_ ?_<;>intro h1<;>simp (disch:=omega) only [Sh.out h1,go_sem,seval,↓reduceIte]
  ·have hk2:k<p.routes.length:=Za
   have hvl:=hv _ (ZN hk2);have hsu:=RL hk2 i;have hg:=Le (rs:=p.routes) (k:=k) i;refine Zi [1,2,7,8] (fun j:Nat=> [(6,.p (.int .i64 (Je (p.routes.take k) i))),(9,.p (.int .i64 j))]) (fun _=> [Xe p]) (fun j=>j<=(nth p.routes k).visits.length/\ ∀q,q<j->(nth (nth p.routes k).visits q).order≠(i:Int)) (fun j=>(nth p.routes k).visits.length-j) 0 Zb (Weak.mk ?_) ?_
   ·simp (disch:=omega) only [Xe,go_sem,seval]
   ·rintro j ⟨hj,hno⟩;refine Zb7 ?_;refine ZB ?_ ?_<;>intro h2
    ·have hj2:j<(nth p.routes k).visits.length:=Za
     refine ZB ?_ ?_<;>intro h3
     ·have hh:hasO (nth p.routes k).visits (i:Int)=true:=Yn.2 ⟨_,ZN hj2,h3⟩;rw [if_pos hh] at hsu;exact ⟨k+1,Za,Za,Weak.mk (by simp (disch:=omega) only [hsu,go_sem,seval])⟩
     ·exact ⟨j+1,⟨Za,Zm.2 ⟨hno,h3⟩⟩,Za,wk⟩
    ·have hh: ¬hasO (nth p.routes k).visits (i:Int)=true:=fun e=>by
      obtain ⟨v,hv,e⟩:=Yn.1 e;obtain ⟨q,hq,rfl⟩:=Z4.1 hv
      grind [Zj]
     rw [if_neg hh] at hsu;exact ⟨k+1,Za,Za,Weak.mk (by simp (disch:=omega) only [hsu,go_sem,seval])⟩
  ·have hkl:k=p.routes.length:=Za
   subst hkl;rw [Yu];refine Zi [1,2,6] (fun k:Nat=> [(7,.p (.int .i64 (Vo (p.unserved.take k) i))),(10,.p (.int .i64 k))]) (fun _=> [Xe p]) (fun k=>k<=p.unserved.length) (fun k=>p.unserved.length-k) 0 Zb (Weak.mk ?_) ?_
   ·simp (disch:=omega) only [Xe,Vo,Wx,List.countP_nil,go_sem,seval]
   ·intro k hk;refine Zb7 ?_;refine cD ?_ ?_<;>intro h2<;>simp (disch:=omega) only [Sh.out h2,go_sem,seval,↓reduceIte]
    ·have hk2:k<p.unserved.length:=Za
     have hsu:=RN hk2 i;have hg:=Lf (us:=p.unserved) (k:=k) i;refine ZB ?_ ?_<;>intro h3
     ·rw [if_pos h3] at hsu;exact ⟨k+1,Za,Za,Weak.mk (by simp (disch:=omega) only [hsu,go_sem,seval])⟩
     ·rw [if_neg h3] at hsu;exact ⟨k+1,Za,Za,Weak.mk (by simp (disch:=omega) only [hsu,go_sem,seval])⟩
    ·have hkl:k=p.unserved.length:=Za
     subst hkl;rw [Yu];exact we
theorem Hf {n:Nat} {f:Nat->Bool} {k:Nat} (hk:k<n) (h:f k=true):(List.range n).any f=true:=Vr.2 ⟨k,Xc.2 hk,h⟩
theorem OO {n:Nat} {f:Nat->Bool} (h: ∀j,j<n->f j=false):(List.range n).any f=false:=by
 grind
def eM (x:Inst) (p:Pln) (i:Nat):Bool:= !(nth x.orders i).off&&(decide (Sp p i=0)||(decide (0<Vo p.unserved i)&&decide ((nth x.orders i).penalty= -1)))
theorem B0 {P Q:Prop} (h:Q) (e:Q->P:=by intro h;simp (disch:=omega) only [Zg,Xe,go_sem,seval];exact h):P:=e h
theorem mF (x:Inst) (p:Pln) (hx:InstOk x) (hr:p.routes.length<=1048576) (hu:p.unserved.length<=1048576) (hb: ∀r∈p.routes,AK r) :
  PC 16 [.p (Zv x),.p (Wk p)] (.int .i64 (chkP x p)):=by
 have hn:=Ke hx;have ht:=FN hx;have hvl: ∀r∈p.routes,r.visits.length<=1048576:=fun r hr=>(hb r hr).1
 have cR: ∀i,0<=Je p.routes i/\Je p.routes i<=1048576:=fun i=>by have:=bE (rs:=p.routes) i;omega
 have cU: ∀i,0<=Vo p.unserved i/\Vo p.unserved i<=1048576:=fun i=>by have:=bG (us:=p.unserved) i;omega
 refine Ze [] Tryz.func16 rfl Zhl ?_;simp (disch:=omega) only [Tryz.f16,go_sem,seval];refine Zi [2,3] (fun k:Nat=> [(5,.p (.int .i64 k))]) (fun _=> [Zg x,Xe p]) (fun k=>k<=p.routes.length/\ ∀j,j<k->Xb x (nth p.routes j)=0) (fun k=>p.routes.length-k) 0 Zb (Weak.mk ?_) ?_
 ·simp (disch:=omega) only [Zg,Xe,go_sem,seval]
 ·rintro k ⟨hk,h0⟩;refine B0 ?_;refine cD ?_ ?_<;>intro h1<;>simp (disch:=omega) only [Sh.out h1,go_sem,seval,↓reduceIte]
  ·have hk2:k<p.routes.length:=Za
   obtain ⟨b1,b2⟩:=hb _ (ZN hk2);refine Z3 7 mixed Zd Zd (X8 ?_);refine Zq (Tm x (nth p.routes k) hx b1 b2) (X8 ?_);refine ZB ?_ ?_<;>intro h2
   ·have he:chkP x p=Xb x (nth p.routes k):=by
     have e:=HG hk2 h0 h2
     simp_all [chkP]
    rw [he];exact we
   ·exact ⟨k+1,⟨Za,Zm.2 ⟨h0,Za⟩⟩,Za,wk⟩
  ·have hkl:k=p.routes.length:=Za
   subst hkl;have her:=HH h0;have c0: ¬ ¬errR x p.routes=0:=fun e=>e her;refine Zi [2,3] (fun k:Nat=> [(7,.p (.int .i64 k))]) (fun _=> [Zg x,Xe p]) (fun k=>k<=p.unserved.length/\ ∀j,j<k->0<=nth p.unserved j/\nth p.unserved j<(x.orders.length:Int)) (fun k=>p.unserved.length-k) 0 Zb (Weak.mk ?_) ?_
   ·simp (disch:=omega) only [Zg,Xe,go_sem,seval]
   ·rintro k ⟨hk,hno⟩;refine B0 ?_
    have hbad:k<p.unserved.length->(decide (0<=nth p.unserved k)&&decide (nth p.unserved k<(x.orders.length:Int)))=false->chkP x p=2:=fun h1 h2=>by
     have:Tl x p.unserved=false:=by
      grind [Tl,ZN]
     simp_all [chkP]
    refine cD ?_ ?_<;>intro h2<;>simp (disch:=omega) only [Sh.out h2,go_sem,seval,↓reduceIte]
    ·have hk2:k<p.unserved.length:=Za
     refine Z6 (X8 ?_);refine gF ?_ ?_<;>intro h3<;>simp (disch:=omega) only [Sh.out h3,go_sem,seval,↓reduceIte]
     ·rw [hbad hk2 (by simp;omega)];exact we
     ·refine ZB ?_ ?_<;>intro h4
      ·rw [hbad hk2 (by simp;omega)];exact we
      ·exact ⟨k+1,⟨Za,Zm.2 ⟨hno,Za⟩⟩,Za,wk⟩
    ·have hkl:k=p.unserved.length:=Za
     subst hkl
     have YB:Tl x p.unserved=true:=by
      rw [Tl,Zw];intro u hu;obtain ⟨j,hj,rfl⟩:=Z4.1 hu
      grind [Zj]
     have c1: ¬Tl x p.unserved=false:=by grind
     refine Zi [2,3] (fun k:Nat=> [(8,.p (.int .i64 k))]) (fun _=> [Zg x,Xe p]) (fun k=>k<=x.orders.length/\ ∀j,j<k->decide (1<Sp p j)=false) (fun k=>x.orders.length-k) 0 Zb (Weak.mk ?_) ?_
     ·simp (disch:=omega) only [Zg,Xe,go_sem,seval]
     ·rintro k ⟨hk,hno2⟩;refine B0 ?_;refine cD ?_ ?_<;>intro h3<;>simp (disch:=omega) only [Sh.out h3,go_sem,seval,↓reduceIte]
      ·have hk2:k<x.orders.length:=Za
       have a1:=cR k;have a2:=cU k;refine Y0 (fK p k hr hu hvl) (X8 ?_);refine ZB ?_ ?_<;>intro h4
       ·have hv:chkP x p=6:=by rw [chkP,if_neg c0,if_neg c1,if_pos (show Iu x p=true from Hf hk2 (XQ h4))]
        rw [hv];exact we
       ·exact ⟨k+1,⟨Za,Zm.2 ⟨hno2,Xn h4⟩⟩,Za,wk⟩
      ·have c2: ¬Iu x p=true:=by grind [Iu]
       have hkl:k=x.orders.length:=Za
       subst hkl;refine Zi [2,3] (fun k:Nat=> [(11,.p (.int .i64 k))]) (fun _=> [Zg x,Xe p]) (fun k=>k<=x.types.length/\ ∀j,j<k->decide ((nth x.types j).count<D9 p.routes j)=false) (fun k=>x.types.length-k) 0 Zb (Weak.mk ?_) ?_
       ·simp (disch:=omega) only [Zg,Xe,go_sem,seval]
       ·rintro t ⟨hk,hno3⟩;refine B0 ?_;refine cD ?_ ?_<;>intro h4<;>simp (disch:=omega) only [Sh.out h4,go_sem,seval,↓reduceIte]
        ·have hk2:t<x.types.length:=Za
         refine Zi [2,3,11] (fun k:Nat=> [(12,.p (.int .i64 (D9 (p.routes.take k) t))),(13,.p (.int .i64 k))]) (fun _=> [Zg x,Xe p]) (fun k=>k<=p.routes.length) (fun k=>p.routes.length-k) 0 Zb (Weak.mk ?_) ?_
         ·simp (disch:=omega) only [Zg,Xe,D9,Wx,List.countP_nil,go_sem,seval]
         ·intro k hk;have hg:=bF (rs:=p.routes) (k:=k) t;refine B0 ?_;refine cD ?_ ?_<;>intro h5<;>simp (disch:=omega) only [Sh.out h5,go_sem,seval,↓reduceIte]
          ·have hk3:k<p.routes.length:=Za
           have hsu:=RM hk3 t;refine ZB ?_ ?_<;>intro h6
           ·rw [if_pos h6] at hsu;exact ⟨k+1,Za,Za,Weak.mk (by simp (disch:=omega) only [hsu,go_sem,seval])⟩
           ·rw [if_neg h6] at hsu;exact ⟨k+1,Za,Za,Weak.mk (by simp (disch:=omega) only [hsu,go_sem,seval])⟩
          ·have hkl:k=p.routes.length:=Za
           subst hkl
           rw [Yu] at *
           refine ZB ?_ ?_<;>intro h6
           ·have hv:chkP x p=22:=by rw [chkP,if_neg c0,if_neg c1,if_neg c2,if_pos (show HD x p=true from Hf hk2 (XQ h6))]
            rw [hv];exact we
           ·exact ⟨t+1,⟨Za,Zm.2 ⟨hno3,Xn h6⟩⟩,Za,wk⟩
        ·have c3: ¬HD x p=true:=by grind [HD]
         have hlast:=hno;refine Zi [2,3] (fun k:Nat=> [(14,.p (.int .i64 k))]) (fun _=> [Zg x,Xe p]) (fun k=>k<=p.unserved.length/\ ∀j,j<k->(nth x.orders (nth p.unserved j).toNat).off=false) (fun k=>p.unserved.length-k) 0 Zb (Weak.mk ?_) ?_
         ·simp (disch:=omega) only [Zg,Xe,go_sem,seval]
         ·rintro k ⟨hk,hno4⟩;refine B0 ?_;refine cD ?_ ?_<;>intro h5<;>simp (disch:=omega) only [Sh.out h5,go_sem,seval,↓reduceIte]
          ·have hk2:k<p.unserved.length:=Za
           have hrg:=hno k hk2
           have hui:(nth p.unserved k).toNat<x.orders.length:=Za
           refine Z6 (X8 ?_);refine ZB ?_ ?_<;>intro h6
           ·have hcu:0<Vo p.unserved (nth p.unserved k).toNat:=by
             unfold Vo;have:0<p.unserved.countP fun v=>decide (v=((nth p.unserved k).toNat:Int)):=List.countP_pos_iff.2 ⟨_,ZN hk2,by grind⟩;omega
            have hst:Iq x p=true:=Hf hui (by grind)
            have hv:chkP x p=9:=by simp_all [chkP]
            rw [hv];exact we
           ·exact ⟨k+1,⟨Za,Zm.2 ⟨hno4,Za⟩⟩,Za,wk⟩
          ·have hkl:k=p.unserved.length:=Za
           subst hkl
           have hoff: ∀i,i<x.orders.length->0<Vo p.unserved i->(nth x.orders i).off=false:=fun i hi hc=>by
            unfold Vo at hc
            have hc2:0<p.unserved.countP fun v=>decide (v=(i:Int)):=Za
            obtain ⟨u,hu,e⟩:=List.countP_pos_iff.1 hc2;obtain ⟨j,hj,rfl⟩:=Z4.1 hu;have h:=hno4 j hj
            simp_all [Zj]
           have c4: ¬Iq x p=true:=by
            rw [Iq,OO fun j hj=> ?_]
            ·simp
            grind
           refine Zi [2,3] (fun k:Nat=> [(15,.p (.int .i64 k))]) (fun _=> [Zg x,Xe p]) (fun k=>k<=x.orders.length/\ ∀j,j<k->eM x p j=false) (fun k=>x.orders.length-k) 0 Zb (Weak.mk ?_) ?_
           ·simp (disch:=omega) only [Zg,Xe,go_sem,seval]
           ·rintro k ⟨hk,hno5⟩;refine B0 ?_;refine cD ?_ ?_<;>intro h6<;>simp (disch:=omega) only [Sh.out h6,go_sem,seval,↓reduceIte]
            ·have hk2:k<x.orders.length:=Za
             have a1:=cR k;have a2:=cU k;have ho:=hoff k hk2
             have miss:(!(nth x.orders k).off&&(decide (Sp p k=0)||(decide (0<Vo p.unserved k)&&decide ((nth x.orders k).penalty= -1))))=true->chkP x p=23:=fun h=>by
              rw [chkP,if_neg c0,if_neg c1,if_neg c2,if_neg c3,if_neg c4,if_pos (show PA x p=true from Hf hk2 h)]
             have nxt:(!(nth x.orders k).off&&(decide (Je p.routes k+Vo p.unserved k=0)||(decide (0<Vo p.unserved k)&&decide ((nth x.orders k).penalty= -1))))=false-> ∀j,j<k+1->eM x p j=false:=fun h=>Zm.2 ⟨hno5,h⟩;have hoc:Sp p k=Je p.routes k+Vo p.unserved k:=rfl;rw [hoc] at miss;refine Y0 (fK p k hr hu hvl) ?_
             generalize Je p.routes k=ca at *
             generalize Vo p.unserved k=cb at *
             refine X8 ?_
             cases hof:(nth x.orders k).off with
             | false =>
              refine gT ?_ ?_<;>intro h7<;>simp (disch:=omega) only [Sh.out h7,hof,Jt,go_sem,seval,↓reduceIte]
              ·rw [miss (by grind)];exact we
              ·refine gT ?_ ?_<;>intro h8<;>simp (disch:=omega) only [Sh.out h8,hof,go_sem,seval]
               ·refine ZB ?_ ?_<;>intro h9
                ·rw [miss (by grind)];exact we
                ·exact ⟨k+1,⟨Za,nxt (by grind)⟩,Za,wk⟩
               ·exact ⟨k+1,⟨Za,nxt (by grind)⟩,Za,wk⟩
             | true =>
              have hcb: ¬ 0<cb:=fun e=>by grind
              have hn: ∀j,j<k+1->eM x p j=false:=nxt (by simp [hof]);refine gT ?_ ?_<;>intro h7<;>simp (disch:=omega) only [Sh.out h7,hof,X1,go_sem,seval,↓reduceIte]
              ·refine Jd ?_ ?_<;>intro h8
               ·omega
               ·exact ⟨k+1,⟨Za,hn⟩,Za,wk⟩
              ·refine Jd ?_ ?_<;>intro h8
               ·omega
               ·exact ⟨k+1,⟨Za,hn⟩,Za,wk⟩
            ·have c5: ¬PA x p=true:=by rw [show PA x p=false from OO fun j hj=>hno5 j Za];simp
             have hv:chkP x p=0:=by simp_all [chkP]
             rw [hv];exact we
set_option maxRecDepth 60000
theorem Zhi (l:List Rte) (c:Bool) (g:FuncId) (caps:List V) (H:List AM.Obj) (f:Rte->Bool) (hl:l.length<=1048576) (hW:IF H H.length H H) (hc:Xf H.length caps=true)
  (hg: ∀v∈l,ACalls Tryz.prog g (.p (Z0 v)::caps) H fun x H'=>x= .p (.bool (f v))/\H'=H) :
  ACalls Tryz.prog 121 [.p (.list c (l.map Z0)),.fn (.func g) [] caps] H fun x H'=>(∃i:Int,(0<=i↔l.any f=true)/\x= .p (.int .i64 i))/\H'=H:=by
 refine Ya Tryz.func121 rfl xK (Zf [] _ _ _ _ ?_);simp (disch:=omega) only [Tryz.f121,go_sem,seval];refine Zi [0,1,7] (fun k:Nat=> [(8,.p (.int .i64 k))]) (fun _=>H) (fun k=>k<=l.length/\ ∀j,j<k->f (nth l j)=false) (fun k=>l.length-k) 0 Zb (Weak.mk ?_) ?_
 ·simp (disch:=omega) only [hW,hc,go_sem,seval];simp
 ·rintro k ⟨hk,hno⟩;refine X8 ?_;refine cD ?_ ?_<;>intro h<;>simp (disch:=omega) only [Sh.out h,go_sem,seval,↓reduceIte]
  ·have hk2:k<l.length:=Za
   have hgk:=hg (nth l k) (Zn hk2);simp (disch:=omega) only [go_sem,seval] at hgk;refine hgk.useH (X8 ?_);refine cD ?_ ?_<;>intro h2<;>simp (disch:=omega) only [Sh.out h2,go_sem,seval,↓reduceIte]
   ·exact ⟨(k:Int),⟨fun _=>Vr.2 ⟨_,Zn hk2,h2⟩,fun _=>Za⟩,rfl⟩
   ·have h3:f (nth l k)=false:=Za
    refine ⟨k+1,⟨Za,Zm.2 ⟨hno,h3⟩⟩,Za,Weak.mk ?_⟩;simp (disch:=omega) only [hW,hc,go_sem,seval];simp
  ·have hkl:k=l.length:=Za
   subst hkl
   have hn:l.any f=false:=by
    rw [VU];intro r hr;obtain ⟨j,hj,rfl⟩:=Z4.1 hr
    grind [Zj]
   grind
theorem Zci (now:Int):PC 62 [.p (.int .i64 now)] (.bool (decide (0<=now/\now<=4096))):=by
 refine Zc Tryz.func62 rfl ZhM ?_;simp (disch:=omega) only [Tryz.f62,go_sem,seval];refine gT ?_ ?_<;>intro h1<;>simp (disch:=omega) only [Sh.out h1,go_sem,seval,↓reduceIte]
def pdep (s:She):Nat->Int
 | 0=>s.dep
 | i+1=>(nth s.times i).dep
structure LabS (sp:List Stp) (k:Nat) (L:Lab):Prop where
 len:L.she.times.length=k
 seg: ∀i,i<k->((nth L.she.times i).arr<=(nth L.she.times i).beg/\0<=(nth L.she.times i).arr/\(nth L.she.times i).beg<=4096)/\pdep L.she i<=(nth L.she.times i).arr
 dep: ∀i,i+1<k->(nth L.she.times i).beg+(nth sp i).serv<=(nth L.she.times i).dep
 fst:0<k->0<=L.she.dep
 rdy: ∀i,i+1=k->L.ready=(nth L.she.times i).beg+(nth sp i).serv
 ge:0<=L.ready
structure SheOk (sp:List Stp) (s:She):Prop where
 len:s.times.length=sp.length
 seg: ∀i,i<sp.length->((nth s.times i).arr<=(nth s.times i).beg/\0<=(nth s.times i).arr/\(nth s.times i).beg<=4096)/\pdep s i<=(nth s.times i).arr
 dep: ∀i,i<sp.length->(nth s.times i).beg+(nth sp i).serv<=(nth s.times i).dep
 fst:0<=s.dep
 lst:pdep s sp.length<=s.fin
theorem fF {α:Type} [Inhabited α] {l:List α} {i j:Nat} {a:α} (h:i<l.length):nth (l.set i a) j=if i=j then a else nth l j:=by
 grind [nth]
theorem fG {α:Type} [Inhabited α] {l:List α} {j:Nat} {a:α} (h:j<l.length):nth (l++ [a]) j=nth l j:=by
 grind [nth]
theorem fE {α:Type} [Inhabited α] {l:List α} {a:α} :nth (l++ [a]) l.length=a:=by
 grind [nth]
structure MarkS (sp:List Stp) (k:Nat) (d:Int) (m:She):Prop where
 len:m.times.length=k
 seg: ∀i,i<k->((nth m.times i).arr<=(nth m.times i).beg/\0<=(nth m.times i).arr/\(nth m.times i).beg<=4096)/\pdep m i<=(nth m.times i).arr
 dep: ∀i,i<k->(nth m.times i).beg+(nth sp i).serv<=(nth m.times i).dep
 fst:0<=m.dep
 cur:pdep m k=d
theorem Px {sp:List Stp} {k:Nat} {L:Lab} {d:Int} {b:Bool} (h:LabS sp k L) (hd:L.ready<=d):MarkS sp k d (XM k d b L.she):=by
 have hge:=h.ge
 cases k with
 | zero =>
  have e:XM 0 d b L.she= { L.she with rest:=b,dep:=d } :=by simp [XM]
  rw [e];exact ⟨h.len,fun i hi=>Za,fun i hi=>Za,by grind,rfl⟩
 | succ k =>
  have hl:=h.len;have hr:=h.rdy k rfl
  have e:XM (k+1) d b L.she= { L.she with times:=L.she.times.set k { nth L.she.times k with dep:=d,rest:=b } } :=by rfl
  rw [e];have hn: ∀i,nth (L.she.times.set k { nth L.she.times k with dep:=d,rest:=b }) i=if k=i then { nth L.she.times k with dep:=d,rest:=b } else nth L.she.times i:=fun i=>fF Za;refine ⟨by grind,fun i hi=> ?_,fun i hi=> ?_,h.fst Za,?_⟩
  ·have hs:=h.seg i hi
   have ha:(nth (L.she.times.set k { nth L.she.times k with dep:=d,rest:=b }) i).arr=(nth L.she.times i).arr/\(nth (L.she.times.set k { nth L.she.times k with dep:=d,rest:=b }) i).beg=(nth L.she.times i).beg:=by
    grind
   simp only;rw [ha.1,ha.2];refine ⟨hs.1,?_⟩
   cases i with
   | zero=>exact hs.2
   | succ i =>
    simp only [pdep] at hs ⊢
    grind
  ·simp only;rw [hn]
   split
   ·grind
   ·exact h.dep i Za
  ·simp only [pdep]
   grind
theorem oH {x:Inst} {t:Typ} {sp:List Stp} {k:Nat} {L:Lab} {b:Bool} (hT:TrpOk x t sp) (hk:k<sp.length) (h:LabS sp k L) (he:(Yk x t sp k L b).2=0):LabS sp (k+1) (Yk x t sp k L b).1:=by
 have hrs:=hT.rst
 have hd:L.ready<=ZR t L b:=by grind [ZR]
 have hge:=h.ge;have hm:=Px (b:=b) h hd;have hgo:(Wb x t sp k (ZR t L b)).2.2=0->ZR t L b<=(Wb x t sp k (ZR t L b)).1:=fun e=>dA hT.net e;have hst:=hT.stp _ (ZN hk);unfold Yk at he ⊢
 generalize Wb x t sp k (ZR t L b)=g at *
 generalize ZR t L b=d at *
 generalize W1 L b=s at *
 generalize XM k d b L.she=m at *
 have hk2: ¬k=sp.length:=Za
 unfold WB at he ⊢;simp only [if_neg hk2] at he ⊢
 split at he
 ·simp at he
 ·rename_i c1;rw [if_neg c1];have hg:=hgo Za
  split at he
  ·simp at he
  ·rename_i c2;rw [if_neg c2]
   split at he
   ·simp at he
   ·rename_i c3;rw [if_neg c3];have hml:=hm.len;have hn: ∀i,i<k->nth (m.times++ [⟨g.1,max g.1 (nth sp k).opn,0,false⟩]) i=nth m.times i:=fun i hi=>fG Za
    have hl:nth (m.times++ [(⟨g.1,max g.1 (nth sp k).opn,0,false⟩:Tim)]) k=⟨g.1,max g.1 (nth sp k).opn,0,false⟩:=by grind [fE]
    refine ⟨by simp [hml],fun i hi=> ?_,fun i hi=> ?_,fun _=>hm.fst,fun i hi=> ?_,by grind⟩
    ·have hpd:pdep { m with times_c:=false,times:=m.times++ [⟨g.1,max g.1 (nth sp k).opn,0,false⟩],miles:=m.miles+g.2.1 } i=pdep m i:=by
      cases i with
      | zero=>rfl
      | succ i=>grind [pdep]
     simp only at hpd ⊢;rw [hpd]
     by_cases e:i=k
     ·subst e;rw [hl,hm.cur]
      grind
     ·rw [hn i Za];exact hm.seg i Za
    ·simp only;rw [hn i Za];exact hm.dep i Za
    grind
theorem oG {x:Inst} {t:Typ} {sp:List Stp} {L:Lab} {b:Bool} (hT:TrpOk x t sp) (h:LabS sp sp.length L) (he:(Yk x t sp sp.length L b).2=0):SheOk sp (Yk x t sp sp.length L b).1.she:=by
 have hrs:=hT.rst
 have hd:L.ready<=ZR t L b:=by grind [ZR]
 have hm:=Px (b:=b) h hd;have hgo:(Wb x t sp sp.length (ZR t L b)).2.2=0->ZR t L b<=(Wb x t sp sp.length (ZR t L b)).1:=fun e=>dA hT.net e;unfold Yk at he ⊢
 generalize Wb x t sp sp.length (ZR t L b)=g at *
 generalize ZR t L b=d at *
 generalize W1 L b=s at *
 generalize XM sp.length d b L.she=m at *
 unfold WB at he ⊢;simp only [if_true] at he ⊢
 split at he
 ·simp at he
 ·rename_i c1;rw [if_neg c1];have hg:=hgo Za
  split at he
  ·simp at he
  ·rename_i c2;rw [if_neg c2]
   split at he
   ·simp at he
   ·rename_i c3;rw [if_neg c3]
    have hpd: ∀i,pdep { m with fin:=g.1,miles:=m.miles+g.2.1 } i=pdep m i:=fun i=>by rfl
    refine ⟨hm.len,fun i hi=> ?_,hm.dep,hm.fst,?_⟩
    ·rw [hpd];exact hm.seg i hi
    ·rw [hpd,hm.cur];exact hg
theorem PQ {x:Inst} {t:Typ} {sp:List Stp} (hT:TrpOk x t sp): ∀(bs:List Bool) (k:Nat) (L:Lab),LabS sp k L->k+bs.length=sp.length+1->0<bs.length->(XK x t sp k L bs).2=0->SheOk sp (XK x t sp k L bs).1.she
 | [],k,L,_,_,h3,_=>by simp at h3
 | b::bs,k,L,h1,h2,_,h=>by
  rw [XK] at h ⊢
  by_cases h4:(Yk x t sp k L b).2=0
  ·simp only [h4,if_true] at h ⊢
   cases bs with
   | nil =>
    simp_all [XK,oG]
   | cons b2 bs =>
    simp at h2;exact PQ hT (b2::bs) (k+1) _ (oH hT Za h1 h4) (by simp;omega) Zb h
  grind
theorem bT {x:Inst} {r:Rte} (hx:InstOk x) (h:Xb x r=0):SheOk (Xw x r.visits) (XG x r):=by
 obtain ⟨hty,h0,hs⟩:=Ud (Un h)
 have e:XG x r=(XF x r).1:=by rw [XG,if_pos h]
 have ee:(XF x r).2=0:=by rw [Xb,if_pos (Un h)] at h;exact h
 have hT:=Ku hx hty (VD h0);obtain ⟨bs,hb1,hb2,hb3⟩:=Rz (by grind [Yg]) ee;have hb3:(XF x r).1=_:=hb3;rw [e,hb3];have hop:=hT.opn;refine PQ hT bs 0 _ ⟨rfl,fun i hi=>Za,fun i hi=>Za,fun h=>Za,fun i hi=>Za,?_⟩ Za Za hb2
 grind [XB]
def QT (s:She):AM.Obj:= .cells [.p (.bool s.rest),.p (.int .i64 s.dep),.p (.list s.times_c (s.times.map eTim)),.p (.int .i64 s.fin),.p (.int .i64 s.miles)]
def E1 (s:Sco):AM.Obj:= .cells [.p (.int .i64 s.cost),.p (.int .i64 s.moved),.p (.int .i64 s.other),.p (.int .i64 s.work)]
def wO (x:Inst) (r:Rte) (s:She) (i:Nat):Int:=(nth s.times i).beg+(stopV x (nth r.visits i)).serv
structure FixOk (x:Inst) (r:Rte) (s:She):Prop where
 typ:0<=r.typ/\r.typ<(x.types.length:Int)
 tl:x.types.length<=6
 ol:x.orders.length<=10
 vl:r.visits.length<=1048576
 len:s.times.length=r.visits.length
 inr: ∀i,i<r.visits.length->0<=(nth r.visits i).order/\(nth r.visits i).order<(x.orders.length:Int)
 beg: ∀i,i<r.visits.length->0<=(nth s.times i).beg/\(nth s.times i).beg<=4096
 srv: ∀i,i<r.visits.length->0<=(stopV x (nth r.visits i)).serv/\(stopV x (nth r.visits i)).serv<=4096
theorem RR (x:Inst) (r:Rte) (s:She) (hf:FixOk x r s) (i:Nat) (hi:i<r.visits.length) :
  PC 124 [.p (Zv x),.p (Z0 r),.p (Bc s),.p (.int .i64 i)] (.int .i64 (wO x r s i)):=by
 obtain ⟨h1,h2⟩:=hf.inr i hi;have h3:=hf.beg i hi;have h4:=hf.srv i hi;have h5:=hf.len;have h6:=hf.vl;have h7:=hf.ol
 have hto:(nth r.visits i).order.toNat<x.orders.length:=Za
 refine Zc Tryz.func124 rfl xM ?_;simp (disch:=omega) only [Tryz.f124,go_sem,seval];refine Xo [10,11] 12 mixed Zd Zd Zd Zb (X8 ?_);refine ZV 10 _ _ Zd (by refine X8 ?_;exact ⟨rfl,rfl⟩) ?_;refine X8 ?_;refine ZV 11 _ _ Zd (by refine X8 ?_;exact ⟨rfl,rfl⟩) (Yo ?_);refine X8 ?_;unfold wO
 cases hd:(nth r.visits i).drp with
 | true =>
  rw [stopV,hd,if_pos rfl] at h4 ⊢;refine X8 ?_;refine Z6 ?_;simp (disch:=omega) only [go_sem,seval,↓reduceIte]
 | false =>
  rw [stopV,hd,if_neg Zb] at h4 ⊢;refine X8 ?_;refine Z6 ?_;simp (disch:=omega) only [go_sem,seval,↓reduceIte]
def SP (x:Inst) (r:Rte) (s:She):Nat->Int
 | 0=>max (ZX x r).opn r.start
 | k+1=>wO x r s k
def HK (x:Inst) (r:Rte) (s:She) (now:Int):Nat->Nat->Nat
 | 0,k=>k
 | f+1,k=>if now<=SP x r s k then k else HK x r s now f (k+1)
def Cj (x:Inst) (r:Rte) (s:She) (now:Int):Nat:=HK x r s now r.visits.length 0
def A9 (x:Inst) (r:Rte) (s:She) (now:Int):Bool:=decide (Cj x r s now=r.visits.length)&&(decide (0<r.visits.length)&&decide (SP x r s r.visits.length<now))
theorem Pa {x r s now} : ∀f k,k<=HK x r s now f k/\HK x r s now f k<=k+f
 | 0,k=>by simp [HK]
 | f+1,k=>by
  rw [HK];have:=Pa (x:=x) (r:=r) (s:=s) (now:=now) f (k+1)
  split<;>omega
theorem nL {x r s now} :Cj x r s now<=r.visits.length:=by grind [Pa,Cj]
theorem RX (x:Inst) (r:Rte) (s:She) (now:Int) (hf:FixOk x r s) (ho:0<=(ZX x r).opn/\(ZX x r).opn<=4096) (hs: -9223372036854775808<=r.start/\r.start<=9223372036854775807) :
  PT 75 [.p (Zv x),.p (Z0 r),.p (Bc s),.p (.int .i64 now)] [.p (.int .i64 (Cj x r s now)),.p (.bool (A9 x r s now))]:=by
 have h1:=hf.typ;have h2:=hf.tl;have h5:=hf.len;have h6:=hf.vl;have e0:SP x r s 0=max (nth x.types r.typ.toNat).opn r.start:=rfl;refine Ze [] Tryz.func75 rfl ZhS ?_;simp (disch:=omega) only [Tryz.f75,go_sem,seval];refine Z6 (X8 ?_);rw [<- e0];refine Zi [3,4,5,6] (fun k:Nat=> [(10,.p (.int .i64 k)),(11,.p (.int .i64 (SP x r s k))),(12,.p (.int .i64 k))]) (fun _=> [Zg x,ZK r,QT s]) (fun k=>k<=r.visits.length/\Cj x r s now=HK x r s now (r.visits.length-k) k) (fun k=>r.visits.length-k) 0 ⟨Zb,rfl⟩ (Weak.mk ?_) ?_
 ·simp (disch:=omega) only [Zg,ZK,QT,go_sem,seval]
 ·rintro k ⟨hk,hfx⟩;simp (disch:=omega) only [Zg,ZK,QT,go_sem,seval];refine cD ?_ ?_<;>intro h<;>simp (disch:=omega) only [Sh.out h,go_sem,seval,↓reduceIte]
  ·have hk2:k<r.visits.length:=Za
   obtain ⟨d,hd⟩: ∃d,r.visits.length-k=d+1:=⟨r.visits.length-k-1,Za⟩;rw [hd,HK] at hfx;refine cD ?_ ?_<;>intro h3<;>simp (disch:=omega) only [Sh.out h3,go_sem,seval,↓reduceIte]
   ·rw [if_pos h3] at hfx
    have hdn:A9 x r s now=false:=by rw [A9,Xn Za,Vs]
    rw [hdn,hfx];exact we
   ·rw [if_neg h3,show d=r.visits.length-(k+1) by omega] at hfx;refine (RR x r s hf k hk2).use ?_;refine X8 ?_;exact ⟨k+1,⟨Za,hfx⟩,Za,Weak.mk (by simp (disch:=omega) only [SP,go_sem,seval])⟩
  ·have hkl:k=r.visits.length:=Za
   subst hkl;rw [Nat.sub_self,HK] at hfx
   have hdn:A9 x r s now=(decide (0<r.visits.length)&&decide (SP x r s r.visits.length<now)):=by simp_all [A9]
   rw [hfx];generalize A9 x r s now=D at hdn;refine gT ?_ ?_<;>intro h4<;>simp (disch:=omega) only [Sh.out h4,go_sem,seval,↓reduceIte]
   ·rw [XQ (show 0<r.visits.length by omega),Wz] at hdn;exact we (by simp (disch:=omega) only [hdn,go_sem,seval])
   ·rw [Xn (show ¬ 0<r.visits.length by omega),Vs] at hdn;exact we (by simp (disch:=omega) only [hdn,go_sem,seval])
def FK (s:She):List Bool:=s.rest::s.times.map (·.rest)
theorem BY {s:She} :(FK s).length=s.times.length+1:=by simp [FK]
theorem SS (s:She) (hl:s.times.length<=1048576):PC 76 [.p (Bc s)] (.list false ((FK s).map eB)):=by
 refine Ze [6] Tryz.func76 rfl ZhT ?_;simp (disch:=omega) only [Tryz.f76,go_sem,seval];refine ZI [6] [1] (fun q:Nat×List Bool=> [(3,.sl 1 0 q.2.length q.2.length),(4,.p (.int .i64 q.1))]) (fun q=> [QT s,.elems 1 (q.2.map eB)]) (fun q=>q.1<=s.times.length/\q.2=(FK s).take (q.1+1)) (fun q=>s.times.length-q.1) (0,[s.rest]) ⟨Zb,by simp [FK]⟩ (Weak.mk ?_) ?_
 ·simp (disch:=omega) only [QT,Zs,ZH,Zu,Zk,go_sem,seval]
 ·rintro ⟨k,m⟩ ⟨hk,hm⟩;simp only at hk hm
  have hml:m.length=k+1:=by grind [BY]
  simp (disch:=omega) only [QT,go_sem,seval];refine ZB ?_ ?_<;>intro h
  ·have hk2:k<s.times.length:=Za
   have htk:m++ [(nth s.times k).rest]=(FK s).take (k+1+1):=by
    grind [Zx,FK,Zj]
   exact ⟨(k+1,m++ [(nth s.times k).rest]),⟨Za,htk⟩,Za,wk⟩
  ·have hkl:k=s.times.length:=Za
   subst hkl;rw [Dw (by rw [BY];omega)] at hm;subst hm;refine Zp (Weak.fz (o:=1) (by rfl)) (Zf [] _ _ _ _ (V4 ?_));exact we
def FB (x:Inst) (now:Int) (r:Rte):Rte:=⟨r.typ,r.start,false,(FK (XG x r)).take (Cj x r (XG x r) now+if A9 x r (XG x r) now=true then 1 else 0),false,r.visits.take (Cj x r (XG x r) now)⟩
def pfxL (x:Inst) (now:Int):Nat->List Rte->List Rte
 | 0,_=> []
 | k+1,l=>pfxL x now k l++if Cj x (nth l k) (XG x (nth l k)) now=0 then [] else [FB x now (nth l k)]
theorem BF {x:Inst} {now:Int} {l:List Rte} : ∀k,(pfxL x now k l).length<=k
 | 0=>by simp [pfxL]
 | k+1=>by
  have:=BF (x:=x) (now:=now) (l:=l) k;rw [pfxL,ZQ]
  split<;>simp<;>omega
def pA (x:Inst) (p:Pln) (now:Int):V:=if now<0\/4096<now then .tup [.p (.list true []),.p (.int .i64 2)] else if errR x p.routes=0 then .tup [.p (.list false ((pfxL x now p.routes.length p.routes).map Z0)),.p (.int .i64 0)] else .tup [.p (.list true []),.p (.int .i64 (errR x p.routes))]
theorem Eg {x:Inst} {r:Rte} (hx:InstOk x) (h:Xb x r=0) (hl:r.visits.length<=1048576):FixOk x r (XG x r):=by
 have hs:=bT hx h;obtain ⟨ht,hsq,_⟩:=Ud (Un h);have hr:=VD hsq
 have hlen:(Xw x r.visits).length=r.visits.length:=by simp [Xw]
 refine ⟨ht,FN hx,Ke hx,hl,by rw [hs.len,hlen],fun i hi=>hr.inr _ (Zn hi),fun i hi=> ?_,fun i hi=> ?_⟩
 ·have:=(hs.seg i Za).1;omega
 ·have hin:=hr.inr _ (Zn hi);have ho:=hx.orders.2 (nth r.visits i).order.toNat Za;have h1:=ho.pstp;have h2:=ho.dstp;simp only [stpOk,Zr] at h1 h2
  grind [stopV]
theorem Ic (x:Inst) (p:Pln) (now:Int) (hx:InstOk x) (hr:p.routes.length<=1048576) (hb: ∀r∈p.routes,AK r) :
  ACalls Tryz.prog 32 [.p (Zv x),.p (Wk p),.p (.int .i64 now)] [] fun y H'=>y=pA x p now/\H'= []:=by
 obtain ⟨T,hT⟩: ∃T,T=pA x p now:=⟨_,rfl⟩;rw [<- hT];unfold pA at hT;refine Ze [4] Tryz.func32 rfl Zht ?_;simp (disch:=omega) only [Tryz.f32,go_sem,seval];refine gF ?_ ?_<;>intro g0<;>simp (disch:=omega) only [Sh.out g0,go_sem,seval,↓reduceIte]
 ·rw [if_pos (.inl g0)] at hT;exact ⟨T,[],Weak.mk (by simp (disch:=omega) only [hT,go_sem,seval]),rfl,rfl⟩
 ·refine cD ?_ ?_<;>intro g1<;>simp (disch:=omega) only [Sh.out g1,go_sem,seval]
  ·rw [if_pos (.inr g1)] at hT;exact ⟨T,[],Weak.mk (by simp (disch:=omega) only [hT,go_sem,seval]),rfl,rfl⟩
  ·rw [if_neg (show ¬(now<0\/4096<now) by omega)] at hT;refine Zp (Weak.ofNil 8 4 (by simp (disch:=omega) only [go_sem,seval]) Zb (Weak.refl _ _ _)) ?_;refine Zf [21] _ _ _ _ (X8 ?_);refine ZI [15,21] [2,3,4] (fun q:Nat×List Rte=> [(8,.sl 2 0 q.2.length q.2.length),(9,.p (.int .i64 q.1))]) (fun q=> [Zg x,Xe p,.elems 4 (q.2.map Z0)]) (fun q=>q.1<=p.routes.length/\(∀j,j<q.1->Xb x (nth p.routes j)=0)/\q.2=pfxL x now q.1 p.routes) (fun q=>p.routes.length-q.1) (0,[]) ⟨Zb,Zb,rfl⟩ (Weak.mk ?_) ?_
   ·simp (disch:=omega) only [Zg,Xe,ZH,Zk,go_sem,seval]
   ·rintro ⟨k,m⟩ ⟨hk,hz,hm⟩;simp only at hk hz hm
    have hml:m.length<=k:=by grind [BF]
    have hms:=hm;refine B0 ?_;refine cD ?_ ?_<;>intro h<;>simp (disch:=omega) only [Sh.out h,go_sem,seval,↓reduceIte]
    ·have hk2:k<p.routes.length:=Za
     obtain ⟨b1,b2⟩:=hb _ (Zn hk2);have ce:=Jg x (nth p.routes k) hx b1 b2;unfold Au at ce;refine G2 ce (X8 ?_);refine cD ?_ ?_<;>intro h2<;>simp (disch:=omega) only [Sh.out h2,go_sem,seval,↓reduceIte]
     ·have her:=HG hk2 hz h2;rw [if_neg Za,her] at hT;exact ⟨T,[],Weak.mk (by simp (disch:=omega) only [hT,go_sem,seval]),rfl,rfl⟩
     ·have hz0:Xb x (nth p.routes k)=0:=Za
      obtain ⟨hty,hsq,hst⟩:=Ud (Un hz0);have hfx:=Eg hx hz0 b1;obtain ⟨t1,_⟩:=Kw hx (show (nth p.routes k).typ.toNat<x.types.length by omega)
      have hsn:pfxL x now (k+1) p.routes=m++if Cj x (nth p.routes k) (XG x (nth p.routes k)) now=0 then [] else [FB x now (nth p.routes k)]:=by rw [pfxL,hm]
      have hnl:=nL (x:=x) (r:=nth p.routes k) (s:=XG x (nth p.routes k)) (now:=now);have hrl:=BY (s:=XG x (nth p.routes k));rw [hfx.len] at hrl;refine Y0 (RX x (nth p.routes k) (XG x (nth p.routes k)) now hfx ⟨t1.1,Int.le_trans t1.2.1 t1.2.2⟩ Za) (X8 ?_);refine ZB ?_ ?_<;>intro h3
      ·rw [if_pos Za,Wc] at hsn;exact ⟨(k+1,m),⟨Za,Zm.2 ⟨hz,hz0⟩,hsn.symm⟩,Za,wk⟩
      ·rw [if_neg Za] at hsn;refine (SS (XG x (nth p.routes k)) (by rw [hfx.len];omega)).use (X8 ?_);obtain ⟨K,hK⟩: ∃K:Nat,K=Cj x (nth p.routes k) (XG x (nth p.routes k)) now+if A9 x (nth p.routes k) (XG x (nth p.routes k)) now=true then 1 else 0:=⟨_,rfl⟩
       have hpf:FB x now (nth p.routes k)=⟨(nth p.routes k).typ,(nth p.routes k).start,false,(FK (XG x (nth p.routes k))).take K,false,(nth p.routes k).visits.take (Cj x (nth p.routes k) (XG x (nth p.routes k)) now)⟩:=by rw [FB,<- hK]
       have hKl:K<=(nth p.routes k).visits.length+1:=by grind
       generalize Cj x (nth p.routes k) (XG x (nth p.routes k)) now=N at hnl h3 hK hpf hsn ⊢;refine ZD [2,3,4,8,9,10,14,16] (fun _:Unit=> [(17,.p (.int .i64 K))]) (fun _=> [Zg x,Xe p,.elems 4 (m.map Z0),ZK (nth p.routes k),QT (XG x (nth p.routes k)),E1 (QB x (nth p.routes k))]) (fun _=>True) ?_ ?_
       ·cases hd:A9 x (nth p.routes k) (XG x (nth p.routes k)) now with
        | true =>
         rw [if_pos hd] at hK;refine X8 ?_;exact ⟨(),Weak.mk (by simp (disch:=omega) only [Zg,Xe,ZK,QT,E1,hK,go_sem,seval])⟩
        | false =>
         rw [if_neg (by rw [hd];simp)] at hK;refine X8 ?_;exact ⟨(),Weak.mk (by simp (disch:=omega) only [Zg,Xe,ZK,QT,E1,hK,go_sem,seval])⟩
       ·intro _ _;refine Zf [19,21] _ _ _ _ ?_;simp (disch:=omega) only [Zg,Xe,ZK,QT,E1,go_sem,seval]
        have q1:((FK (XG x (nth p.routes k))).take K).length=K:=by grind
        have q2:((nth p.routes k).visits.take N).length=N:=by grind
        refine Z3 5 mixed Zd Zd ?_;refine X8 ?_;rw [if_pos ⟨Za,Za⟩];refine X8 ?_;refine ZD [2,3,4,8,9,18] (fun _:Unit=> []) (fun _=> [Zg x,Xe p,.elems 4 (m.map Z0),ZK (nth p.routes k),QT (XG x (nth p.routes k)),E1 (QB x (nth p.routes k)),ZK (FB x now (nth p.routes k)),.dead,.dead]) (fun _=>True) ?_ ?_
        ·refine X8 ?_;refine Z3 6 mixed Zd Zd ?_;refine X8 ?_;rw [if_pos ⟨Za,Za⟩];refine X8 ?_;exact ⟨(),(Weak.fz (o:=7) (by rfl)).trans ((Weak.fz (o:=8) (by rfl)).trans (Weak.mk (by simp (disch:=omega) only [Zg,Xe,ZK,QT,E1,hpf,q1,q2,eq_self,Xp,Zu,Zk,X7,Z9,go_sem,seval,↓reduceIte])))⟩
        ·intro _ _;refine Zf [21] _ _ _ _ ?_;simp (disch:=omega) only [Zg,Xe,ZK,QT,E1,go_sem,seval];exact ⟨(k+1,m++ [FB x now (nth p.routes k)]),⟨Za,Zm.2 ⟨hz,hz0⟩,hsn.symm⟩,Za,wk⟩
    ·have hkl:k=p.routes.length:=Za
     subst hkl;rw [if_pos (HH hz),<- hm] at hT;refine Zp (Weak.fz (o:=2) (by rfl)) (Zf [] _ _ _ _ (V4 ?_));exact ⟨T,[],Weak.mk (by simp (disch:=omega) only [hT,go_sem,seval]),rfl,rfl⟩
theorem Lp {x:Inst} {l:List Rte} :errR x l=0↔ ∀r∈l,Xb x r=0:=by
 induction l with
 | nil=>simp [errR]
 | cons r l ih =>
  rw [errR]
  grind
def Sn (x:Inst):Nat:=Vj (fun i=> !(nth x.orders i).off) x.orders.length
theorem DT (x:Inst) (hn:x.orders.length<=60):PC 56 [.p (Zv x)] (.int .i64 (Sn x:Nat)):=by
 refine Zc Tryz.func56 rfl ZhG ?_;simp (disch:=omega) only [Tryz.f56,go_sem,seval];refine Zi [1] (fun k:Nat=> [(3,.p (.int .i64 (Vj (fun i=> !(nth x.orders i).off) k:Nat))),(4,.p (.int .i64 (pw k:Nat))),(5,.p (.int .i64 (k:Int)))]) (fun _=> [Zg x]) (fun k=>k<=x.orders.length) (fun k=>x.orders.length-k) 0 Zb (Weak.mk ?_) ?_
 ·simp (disch:=omega) only [Vj,Zg,show pw 0=1 from rfl,go_sem,seval]
 ·intro k hk;have hsl:=BW (fun i=> !(nth x.orders i).off) k;have hsi:pw k<=pw 60:=QN Za;have e60:pw 60=1152921504606846976:=rfl
  have hps:((pw (k+1):Nat):Int)=(pw k:Int)*2:=by rfl
  refine Yi ?_;refine gT ?_ ?_<;>intro h1<;>simp (disch:=omega) only [Sh.out h1,go_sem,seval,↓reduceIte]
  ·have hk2:k<x.orders.length:=Za
   have q2:(k:Int)<63:=Za
   simp (disch:=omega) only [q2,go_sem,seval]
   cases ho:(nth x.orders k).off with
   | true =>
    have he:Vj (fun i=> !(nth x.orders i).off) (k+1)=Vj (fun i=> !(nth x.orders i).off) k:=by simp [Vj,ho]
    refine X8 ?_;exact ⟨k+1,Za,Za,Weak.mk (by simp (disch:=omega) only [he,hps,go_sem,seval])⟩
   | false =>
    have he:((Vj (fun i=> !(nth x.orders i).off) (k+1):Nat):Int)=(Vj (fun i=> !(nth x.orders i).off) k:Int)+(pw k:Int):=by simp [Vj,ho]
    refine X8 ?_;exact ⟨k+1,Za,Za,Weak.mk (by simp (disch:=omega) only [he,hps,go_sem,seval])⟩
  ·have:k=x.orders.length:=Za
   subst this
   rfl
theorem SF (p:Pln) (hp:p.wf 1048576):PC 27 [.p (Wk p)] (.bool (smB p)):=by
 obtain ⟨w1,w2,w3,w4⟩:=hp;refine Zc Tryz.func27 rfl Zhs ?_;simp (disch:=omega) only [Tryz.f27,go_sem,seval];refine gF ?_ ?_<;>intro h2<;>simp (disch:=omega) only [Sh.out h2,go_sem,seval,↓reduceIte]
 ·grind [smB]
 ·refine cD ?_ ?_<;>intro h3<;>simp (disch:=omega) only [Sh.out h3,go_sem,seval]
  ·have:smB p=false:=by rw [smB,Xn (p:=p.unserved.length<=6) Za,Qe];rfl
   rw [this]
  ·refine Zi [1] (fun q:Nat=> [(3,.p (.int .i64 q))]) (fun _=> [Xe p]) (fun q=>q<=p.routes.length/\ ∀j,j<q->rtB (nth p.routes j)=true) (fun q=>p.routes.length-q) 0 Zb (Weak.mk ?_) ?_
   ·simp (disch:=omega) only [Xe,go_sem,seval]
   ·rintro q ⟨hq,hin⟩;refine Zb7 ?_;refine cD ?_ ?_<;>intro h4<;>simp (disch:=omega) only [Sh.out h4,go_sem,seval,↓reduceIte]
    ·have hq2:q<p.routes.length:=Za
     obtain ⟨_,_,u1,_,u2,_⟩:=w2 _ (Zn hq2);have hb2:=Zcd hq2;refine gF ?_ ?_<;>intro h5<;>simp (disch:=omega) only [Sh.out h5,go_sem,seval,↓reduceIte]
     ·grind [rtB]
     ·refine ZB ?_ ?_<;>intro h6
      ·rw [hb2 (by rw [rtB,Xn (p:=(nth p.routes q).rests.length<=9) Za,Qe])]
      ·exact ⟨q+1,⟨Za,Zm.2 ⟨hin,by rw [rtB,ZG,Zr,Zr];omega⟩⟩,Za,wk⟩
    ·have hql:q=p.routes.length:=Za
     subst hql
     have hgood:smB p=true:=by
      rw [smB,Zmp hin,UP,ZG,Zr,Zr];omega
     rw [hgood]
structure BegOk (y:Inst) (r:Rte):Prop where
 ord:(ordR r.visits).2=0
 sub: ∀j,(ordS r.visits).testBit j=true->j<y.orders.length/\(nth y.orders j).off=false
 typ:r.typ<(y.types.length:Int)
structure DayOk48 (c:Cas) (l:List Rte):Prop where
 x:FitP c.x 3
 y:FitP c.y 3
 sm:smB c.p=true
 now:0<=c.now/\c.now<=4096
 chk:chkP c.x c.p=0
 err:errR c.x c.p.routes=0
 eq:l=pfxL c.x c.now c.p.routes.length c.p.routes
 beg: ∀r∈l,BegOk c.y r
theorem Ip {p:Pln} (h:smB p=true):p.routes.length<=4/\p.unserved.length<=6/\ ∀r∈p.routes,r.visits.length<=8/\r.rests.length<=9:=by
 simp_all [smB,rtB]
theorem EK {x:Inst} {now:Int} {l:List Rte} {b:Rte} : ∀k,k<=l.length->b∈pfxL x now k l-> ∃r∈l,b=FB x now r/\Cj x r (XG x r) now≠0
 | 0,_,h=>by simp [pfxL] at h
 | k+1,hk,h=>by
  rw [pfxL,Xd] at h;rcases h with h | h
  ·exact EK k Za h
  ·split at h
   ·simp at h
   ·rename_i hn;exact ⟨nth l k,Zn Za,by simpa using h,hn⟩
theorem L8 {x:Inst} {now:Int} {r:Rte} (hs:(XG x r).times.length=r.visits.length):(FB x now r).visits.length<=r.visits.length/\(FB x now r).rests.length<=r.visits.length+1:=by
 grind [BY,FB]
def vR (c:Cas):AM.Obj:= .cells ((mA c).map .p)
theorem C6 {P Q:Prop} (h:Q) (e:Q->P:=by intro h;simp (disch:=omega) only [Jt,go_sem,seval];exact h):P:=e h
theorem mQ (c:Cas) (hw:c.wf 1048576) :
  ACalls Tryz.prog 20 [.p (bO c)] [] fun y H'=> ∃(b fl:Bool) (l:List Rte),(l.length<=8/\ ∀r∈l,AK r)/\(b=true->DayOk48 c l)/\y= .tup [.p (.list fl (l.map Z0)),.p (.bool b)]/\H'= []:=by
 obtain ⟨hwx,hwp,hwn,hwy⟩:=hw;have hP:=hwp;obtain ⟨p1,p2,p3,p4⟩:=hP;have fail: ∃(b fl:Bool) (l:List Rte),(l.length<=8/\ ∀r∈l,AK r)/\(b=true->DayOk48 c l)/\(V.tup [.p (.list true []),.p (.bool false)])= .tup [.p (.list fl (l.map Z0)),.p (.bool b)]/\([]:List AM.Obj)= []:=⟨false,true,[],⟨Zb,fun r h=>by simp at h⟩,(fun h=>Bool.noConfusion h),rfl,rfl⟩;obtain ⟨b1,hb1⟩: ∃b:Bool,b=true↔FitP c.x 3:=⟨@decide _ (Classical.propDecidable _),@decide_eq_true_iff _ (Classical.propDecidable _)⟩;obtain ⟨b2,hb2⟩: ∃b:Bool,b=true↔FitP c.y 3:=⟨@decide _ (Classical.propDecidable _),@decide_eq_true_iff _ (Classical.propDecidable _)⟩
 refine Ze [] Tryz.func20 rfl Zhm ?_;simp (disch:=omega) only [Tryz.f20,go_sem,seval];refine (Gc c.x hwx 3 b1 hb1).use (X8 ?_)
 cases b1 with
 | false =>
  refine C6 ?_;exact ⟨.tup [.p (.list true []),.p (.bool false)],[],wk,fail⟩
 | true =>
  refine Ks ?_;refine (Gc c.y hwy 3 b2 hb2).use (X8 ?_)
  cases b2 with
  | false =>
   refine C6 ?_;exact ⟨.tup [.p (.list true []),.p (.bool false)],[],wk,fail⟩
  | true =>
   refine Ks ?_;have fx:=hb1.1 rfl;have fy:=hb2.1 rfl;refine (SF c.p hwp).use (X8 ?_)
   cases hs:smB c.p with
   | false =>
    refine C6 ?_;exact ⟨.tup [.p (.list true []),.p (.bool false)],[],wk,fail⟩
   | true =>
    refine Ks ?_;obtain ⟨s1,s2,s3⟩:=Ip hs;have hx:=fx.2.2.2.2.2.2;have hy:=fy.2.2.2.2.2.2;have hR: ∀r∈c.p.routes,AK r:=fun r h=>⟨(p2 r h).2.2.2.2.1,(p2 r h).2.2.1⟩;refine gF ?_ ?_<;>intro h1<;>simp (disch:=omega) only [Sh.out h1,go_sem,seval,↓reduceIte]
    ·exact ⟨.tup [.p (.list true []),.p (.bool false)],[],wk,fail⟩
    ·refine gF ?_ ?_<;>intro h2<;>simp (disch:=omega) only [Sh.out h2,go_sem,seval,↓reduceIte]
     ·exact ⟨.tup [.p (.list true []),.p (.bool false)],[],wk,fail⟩
     ·refine (mF c.x c.p hx p1 p3 hR).use (X8 ?_);refine cD ?_ ?_<;>intro h3<;>simp (disch:=omega) only [Sh.out h3,go_sem,seval,↓reduceIte]
      ·exact ⟨.tup [.p (.list true []),.p (.bool false)],[],wk,fail⟩
      ·have cp:=Ic c.x c.p c.now hx p1 hR;rw [pA,if_neg (show ¬(c.now<0\/4096<c.now) by omega)] at cp
       by_cases he:errR c.x c.p.routes=0
       ·rw [if_pos he] at cp;have hll:=BF (x:=c.x) (now:=c.now) (l:=c.p.routes) c.p.routes.length
        have hLr: ∀b∈pfxL c.x c.now c.p.routes.length c.p.routes,AK b:=fun b h=>by
         obtain ⟨r,hr,rfl,_⟩:=EK _ (ZM _) h;have h0:=Lp.1 he r hr;have hs:=(Eg hx h0 (hR r hr).1).len;have:=L8 (x:=c.x) (now:=c.now) hs;have:=(s3 r hr).1;exact ⟨Za,Za⟩
        obtain ⟨L,hL⟩: ∃L,L=pfxL c.x c.now c.p.routes.length c.p.routes:=⟨_,rfl⟩;rw [<- hL] at cp hll hLr;refine Y0 cp (X8 ?_);refine Zi [1,4] (fun k:Nat=> [(6,.p (.int .i64 k))]) (fun _=> [vR c]) (fun k=>k<=L.length/\ ∀j,j<k->BegOk c.y (nth L j)) (fun k=>L.length-k) 0 Zb (Weak.mk ?_) ?_
        ·simp (disch:=omega) only [vR,mA,Zu,Zk,go_sem,seval]
        ·rintro k ⟨hk,hno⟩;simp (disch:=omega) only [vR,mA,Zu,Zk,go_sem,seval];refine cD ?_ ?_<;>intro h4<;>simp (disch:=omega) only [Sh.out h4,go_sem,seval,↓reduceIte]
         ·have hk2:k<L.length:=Za
          have hrk:=hLr _ (Zn hk2);refine Y0 (Aa (nth L k) hrk.1) (X8 ?_)
          by_cases g1:(ordR (nth L k).visits).2=0
          ·have YB:(nth L k).visits.all CX=true:=by
            grind [ordR]
           have ho:(ordR (nth L k).visits).1=((ordS (nth L k).visits:Nat):Int):=by rw [ordR,if_pos YB]
           have hlt:=UW (nth L k).visits.length (l:=(nth L k).visits) (ZM _) (fun v hv=>Zw.1 YB v (by grind));rw [Yu] at hlt
           have hnl:Sn c.y<9223372036854775808:=by
            have h1:=BW (fun i=> !(nth c.y.orders i).off) c.y.orders.length;have h2:pw c.y.orders.length<=pw 10:=QN (Ke hy);have h3:pw 10=1024:=rfl;unfold Sn;omega
           by_cases g2:((bK (ordS (nth L k).visits) (Sn c.y):Nat):Int)=0
           ·by_cases g3:(c.y.types.length:Int)<=(nth L k).typ
            ·refine Z6 ?_;simp (disch:=omega) only [g1,ho,go_sem,seval];refine Zq (DT c.y (by grind [Ke])) (X8 ?_);simp (disch:=omega) only [g2,g3,go_sem,seval];exact ⟨.tup [.p (.list true []),.p (.bool false)],[],wk,fail⟩
            ·refine Z6 ?_;simp (disch:=omega) only [g1,ho,go_sem,seval];refine Zq (DT c.y (by grind [Ke])) (X8 ?_);simp (disch:=omega) only [g2,g3,go_sem,seval];refine ⟨k+1,⟨Za,Zm.2 ⟨hno,g1,fun j hj=> ?_,Za⟩⟩,Za,wk⟩
             have hz:bK (ordS (nth L k).visits) (Sn c.y)=0:=Za
             have hb:=Lk.1 hz j hj
             simp_all [Sn,CL]
           ·refine Z6 ?_;simp (disch:=omega) only [g1,ho,go_sem,seval];refine Zq (DT c.y (by grind [Ke])) (X8 ?_);simp (disch:=omega) only [g2,go_sem,seval];exact ⟨.tup [.p (.list true []),.p (.bool false)],[],wk,fail⟩
          ·refine Z6 ?_;simp (disch:=omega) only [g1,go_sem,seval];exact ⟨.tup [.p (.list true []),.p (.bool false)],[],wk,fail⟩
         ·have hkl:k=L.length:=Za
          subst hkl;refine ⟨.tup [.p (.list false (L.map Z0)),.p (.bool true)],[],wk,true,false,L,⟨Za,hLr⟩,fun _=>⟨fx,fy,hs,Za,Za,he,hL,fun r hr=> ?_⟩,rfl,rfl⟩;obtain ⟨j,hj,rfl⟩:=Z4.1 hr
          grind [Zj]
       ·rw [if_neg he] at cp;refine Y0 cp (X8 ?_);refine cD ?_ ?_<;>intro h5<;>simp (disch:=omega) only [Sh.out h5,go_sem,seval]
        ·exact ⟨.tup [.p (.list true []),.p (.bool false)],[],wk,fail⟩
        ·omega
theorem Zcp {g:FuncId} {args:List V} {A:List Rte->Prop} {B:Bool->List Rte->Prop} {H:List AM.Obj} {K:V->List AM.Obj->Prop} (h:ACalls Tryz.prog g args [] fun y H'=> ∃(b fl:Bool) (l:List Rte),A l/\B b l/\y= .tup [.p (.list fl (l.map Z0)),.p (.bool b)]/\H'= [])
  (k: ∀b fl l,A l->B b l->K (.tup [.p (.list fl (l.map Z0)),.p (.bool b)]) H) (ha:Xf 0 args=true:=by rfl):ACalls Tryz.prog g args H K :=
 (h.behind ha H).mono fun x H' hq=>by
  obtain ⟨y,H1,⟨b,fl,l,h1,h2,rfl,rfl⟩,rfl,rfl⟩:=hq
  grind [AM.shV,AM.shVs]
structure St where
 ix:Int
 cov:Int
 used:List Int
 deriving Inhabited,DecidableEq
def Am (s:St):PV:= .agg (.int .i64 s.ix:: .int .i64 s.cov::s.used.map eI)
@[go_sem] theorem Zmw (s:St):Am s= .agg (.int .i64 s.ix:: .int .i64 s.cov::s.used.map eI):=ZP rfl rfl
def StR (s:St):Prop:=s.used.length=6
theorem six {l:List Int} (h:l.length=6): ∃a b c d e f,l= [a,b,c,d,e,f]:=by
 match l,h with
 | [a,b,c,d,e,f],_=>simp
theorem YD {s:St} (h:StR s): ∃i v a b c d e f,s=⟨i,v,[a,b,c,d,e,f]⟩:=by
 obtain ⟨i,v,u⟩:=s;obtain ⟨a,b,c,d,e,f,rfl⟩:=six h;simp
theorem NL : KeyE Tryz.prog 204 Am StR:=by
 refine ⟨⟨151,3,Zd,Zd,fun s hs=> ?_,fun s t hs ht=> ?_⟩,fun s t hs ht=> ?_⟩
 ·obtain ⟨i,v,a,b,c,d,e,f,rfl⟩:=YD hs
  kernel_rfl
 ·obtain ⟨i,v,a,b,c,d,e,f,rfl⟩:=YD hs;obtain ⟨i',v',a',b',c',d',e',f',rfl⟩:=YD ht
  have h1:Wr Tryz.prog 9 151 (Am ⟨i,v,[a,b,c,d,e,f]⟩) (Am ⟨i',v',[a',b',c',d',e',f']⟩)=some (decide (i=i')&&(decide (v=v')&&((decide (a=a')&&(decide (b=b')&&(decide (c=c')&&(decide (d=d')&&(decide (e=e')&&(decide (f=f')&&true))))))&&true))):=Zd
  have h2:keq (Am ⟨i,v,[a,b,c,d,e,f]⟩) (Am ⟨i',v',[a',b',c',d',e',f']⟩)=(decide (i=i')&&(decide (v=v')&&((decide (a=a')&&(decide (b=b')&&(decide (c=c')&&(decide (d=d')&&(decide (e=e')&&(decide (f=f')&&true))))))&&true))):=by
   simp_all [keq,Am,QM,eI]
  show (Wr Tryz.prog 9 151 (Am ⟨i,v,[a,b,c,d,e,f]⟩) (Am ⟨i',v',[a',b',c',d',e',f']⟩)==some (keq (Am ⟨i,v,[a,b,c,d,e,f]⟩) (Am ⟨i',v',[a',b',c',d',e',f']⟩)))=true
  simp_all
 ·obtain ⟨i,v,a,b,c,d,e,f,rfl⟩:=YD hs;obtain ⟨i',v',a',b',c',d',e',f',rfl⟩:=YD ht
  simp_all [keq,Am,QM,eI]
structure Kd where
 typ:Int
 set:Int
 deriving Inhabited,DecidableEq
def Tz (k:Kd):PV:= .agg [.int .i64 k.typ,.int .i64 k.set]
theorem dW : KeyE Tryz.prog 265 Tz fun _=>True:=by
 refine ⟨⟨267,3,Zd,Zd,fun s _=> ?_,fun s t _ _=> ?_⟩,fun s t _ _=> ?_⟩
 ·kernel_rfl
 ·obtain ⟨a,b⟩:=s;obtain ⟨c,d⟩:=t
  have h1:Wr Tryz.prog 9 267 (Tz ⟨a,b⟩) (Tz ⟨c,d⟩)=some (decide (a=c)&&(decide (b=d)&&true)):=Zd
  have h2:keq (Tz ⟨a,b⟩) (Tz ⟨c,d⟩)=(decide (a=c)&&(decide (b=d)&&true)):=by
   grind [keq,Tz,QM]
  show (Wr Tryz.prog 9 267 (Tz ⟨a,b⟩) (Tz ⟨c,d⟩)==some (keq (Tz ⟨a,b⟩) (Tz ⟨c,d⟩)))=true
  simp_all
 ·obtain ⟨a,b⟩:=s;obtain ⟨c,d⟩:=t;simp [keq,Tz,QM]
def AN (n:Nat) (m cov:Int):Nat->Nat->Nat
 | 0,k=>k
 | f+1,k=>if k<n/\(sHas m k=false\/sHas cov k=true) then AN n m cov f (k+1) else k
theorem CK {n:Nat} {m cov:Int} {k:Nat} (h: ¬(k<n/\(sHas m k=false\/sHas cov k=true))) (f:Nat):AN n m cov f k=k:=by
 cases f with
 | zero=>rfl
 | succ f=>rw [AN,if_neg h]
theorem DJ {n:Nat} {m cov:Int} {k:Nat} (h:k<n) (hc:sHas m k=false\/sHas cov k=true):AN n m cov (n-k) k=AN n m cov (n-(k+1)) (k+1):=by
 rw [show n-k=(n-(k+1))+1 by omega,AN,if_pos ⟨h,hc⟩]
def W0 (n:Nat) (m:Int) (s:St):St:= { s with ix:=(AN n m s.cov (n-s.ix.toNat) s.ix.toNat:Nat) }
def YT (x:Inst) (f g:PV) (m:Int):AM.Obj:= .cells [.p (.list x.net.places_c (x.net.places.map eS)),.p (.list x.net.arcs_c (x.net.arcs.map Wj)),.p (.list x.types_c (x.types.map Y5)),.p (.list x.orders_c (x.orders.map eOrd)),.p (.list x.apart_c (x.apart.map eP)),.p (.list x.before_c (x.before.map eP)),.p f,.p g,.mp 0,.p (.int .i64 m)]
def X4 (x:Inst) (f g:PV) (m:Int) (l:List (St×Int)):List AM.Obj:= [.map (l.map (Ln Am)),YT x f g m]
def Kr (s:St):AM.Obj:= .cells (.p (.int .i64 s.ix):: .p (.int .i64 s.cov)::(s.used.map eI).map .p)
theorem E4 (x:Inst) (f g:PV) (m:Int) (l:List (St×Int)) (s:St) (hs:StR s) (h0:0<=s.ix) (hn:x.orders.length<=10) (h1:s.ix<=10) :
  ACalls Tryz.prog 100 [.ptr 1 0,.p (Am s)] (X4 x f g m l) fun y H'=>y= .p (Am (W0 x.orders.length m s))/\H'=X4 x f g m l:=by
 obtain ⟨i,v,a,b,c,d,e,u,rfl⟩:=YD hs;obtain ⟨i,rfl⟩: ∃k:Nat,i=k:=⟨i.toNat,by grind⟩;simp only at h0 h1;generalize hT:Am (W0 x.orders.length m ⟨i,v,[a,b,c,d,e,u]⟩)=T;refine Ze [] Tryz.func100 rfl wZ ?_;simp (disch:=omega) only [Tryz.f100,X4,YT,Zu,Zk,go_sem,seval];refine Zi [0,3,4] (fun k:Nat=> []) (fun k=>X4 x f g m l++ [Kr ⟨k,v,[a,b,c,d,e,u]⟩,.cells (List.replicate 8 (.p (.int .i64 0)))]) (fun k=>k<=10/\AN x.orders.length m v (x.orders.length-k) k=AN x.orders.length m v (x.orders.length-i) i) (fun k=>x.orders.length-k) i ⟨Za,rfl⟩ (Weak.mk ?_) ?_
 ·simp (disch:=omega) only [X4,YT,Kr,Zu,Zk,List.replicate,go_sem,seval,↓reduceIte]
 ·rintro k ⟨hk,hq⟩
  have fin: ∀q:Nat,q=AN x.orders.length m v (x.orders.length-i) i->Am ⟨q,v,[a,b,c,d,e,u]⟩=T:=fun q hq=>by grind [W0]
  simp (disch:=omega) only [X4,YT,Kr,Zu,Zk,List.replicate,go_sem,seval];refine Z6 (X8 ?_);refine gT ?_ ?_<;>intro h5<;>simp (disch:=omega) only [Sh.out h5,go_sem,seval,↓reduceIte]
  ·have hk2:k<x.orders.length:=Za
   refine Zq (dE m k) (X8 ?_)
   cases hm:sHas m k with
   | false =>
    refine C6 ?_;exact ⟨k+1,⟨Za,by grind [DJ]⟩,Za,wk⟩
   | true =>
    refine Ks ?_;refine Zq (dE v k) (X8 ?_)
    cases hv:sHas v k with
    | true =>
     refine X8 ?_;exact ⟨k+1,⟨Za,by grind [DJ]⟩,Za,wk⟩
    | false =>
     refine X8 ?_;exact ⟨.p (Am ⟨k,v,[a,b,c,d,e,u]⟩),_,Weak.mk (by simp (disch:=omega) only [Zu,Zk,go_sem,seval]),by grind [CK],rfl⟩
  ·exact ⟨.p (Am ⟨k,v,[a,b,c,d,e,u]⟩),_,Weak.mk (by simp (disch:=omega) only [Zu,Zk,go_sem,seval]),by grind [CK],rfl⟩
def Cw (n:Nat) (m:Int) (s:St):St:=W0 n m { s with ix:=s.ix+1 }
theorem Zdl {P Q:Prop} (h:Q) (e:Q->P:=by intro h;simp (disch:=omega) only [X4,YT,Zu,Zk,Xu,ZF,go_sem,seval];exact h):P:=e h
theorem G3 (x:Inst) (f g:PV) (m:Int) (l:List (St×Int)) (s:St) (hs:StR s) (h0:0<=s.ix) (hn:x.orders.length<=10) (h1:s.ix<=9) :
  ACalls Tryz.prog 155 [.ptr 1 0,.p (Am s)] (X4 x f g m l) fun y H'=>y= .p (Am (Cw x.orders.length m s))/\H'=X4 x f g m l:=by
 have hc:=E4 x f g m l { s with ix:=s.ix+1 } hs (by grind) hn (by grind);obtain ⟨i,v,a,b,c,d,e,u,rfl⟩:=YD hs;obtain ⟨q,hq⟩: ∃q:Int,Cw x.orders.length m ⟨i,v,[a,b,c,d,e,u]⟩=⟨q,v,[a,b,c,d,e,u]⟩:=⟨_,rfl⟩;have hq':W0 x.orders.length m ⟨i+1,v,[a,b,c,d,e,u]⟩=⟨q,v,[a,b,c,d,e,u]⟩:=hq;rw [hq];simp only at h0 h1 hc;rw [hq'] at hc;refine Ze [] Tryz.func155 rfl yN ?_;simp (disch:=omega) only [Tryz.f155,X4,YT,Zu,Zk,go_sem,seval];refine hc.useP (L:= [_,_]) (by rfl) ?_ (by rfl) (by rfl);refine Zdl ?_
 exact we
def B3 (n:Nat) (m:Int) (s:St) (T:Nat) (C S:Nat):St:=W0 n m ⟨s.ix,((C|||S:Nat):Int),s.used.set T (nth s.used T+1)⟩
def Dh (x:Inst) (s:St) (T:Nat) (C S:Nat):Bool:=decide (C&&&S=0)&&decide (nth s.used T<(nth x.types T).count)
theorem jO (x:Inst) (f g:PV) (m:Int) (l:List (St×Int)) (s:St) (c:Col) (hs:StR s) (h0:0<=s.ix) (hn:x.orders.length<=10) (h1:s.ix<=10) (C S T:Nat) (hC:s.cov=C) (hS:c.set=S) (hT:c.typ=T) (hC2:C<1024) (hS2:S<1024) (hT2:T<x.types.length) (h6:x.types.length<=6)
  (hu: ∀j,j<6->0<=nth s.used j/\nth s.used j<=1048576) :
  ACalls Tryz.prog 154 [.ptr 1 0,.p (Am s),.p (Xz c)] (X4 x f g m l) fun y H'=>y=(if Dh x s T C S=true then .tup [.p (Am (B3 x.orders.length m s T C S)),.p (.bool true)] else .tup [.p (Am s),.p (.bool false)])/\H'=X4 x f g m l:=by
 have hor:C|||S<1024:=J5 (n:=10) hC2 hS2;have hc:=E4 x f g m l ⟨s.ix,((C|||S:Nat):Int),s.used.set T (nth s.used T+1)⟩ (by grind [StR]) h0 hn h1;obtain ⟨i,v,a0,a1,a2,a3,a4,a5,rfl⟩:=YD hs
 have hT3:T=0\/T=1\/T=2\/T=3\/T=4\/T=5:=Za
 have u0:=hu 0 Za;have u1:=hu 1 Za;have u2:=hu 2 Za;have u3:=hu 3 Za;have u4:=hu 4 Za;have u5:=hu 5 Za;simp only [nth,List.getD_cons_zero,List.getD_cons_succ] at u0 u1 u2 u3 u4 u5;simp only at hC h0 h1;obtain ⟨ct,cs,cp,cr⟩:=c;simp only at hS hT;subst hC;subst hS;subst hT;obtain ⟨R,hR⟩: ∃R:V,R=(if Dh x ⟨i,(C:Nat),[a0,a1,a2,a3,a4,a5]⟩ T C S=true then .tup [.p (Am (B3 x.orders.length m ⟨i,(C:Nat),[a0,a1,a2,a3,a4,a5]⟩ T C S)),.p (.bool true)] else .tup [.p (Am ⟨i,(C:Nat),[a0,a1,a2,a3,a4,a5]⟩),.p (.bool false)]):=⟨_,rfl⟩
 rw [<- hR];obtain ⟨q,hq⟩: ∃q:Int,W0 x.orders.length m ⟨i,((C|||S:Nat):Int),[a0,a1,a2,a3,a4,a5].set T (nth [a0,a1,a2,a3,a4,a5] T+1)⟩=⟨q,((C|||S:Nat):Int),[a0,a1,a2,a3,a4,a5].set T (nth [a0,a1,a2,a3,a4,a5] T+1)⟩:=⟨_,rfl⟩;simp only at hc;rw [hq] at hc;have hw:B3 x.orders.length m ⟨i,(C:Nat),[a0,a1,a2,a3,a4,a5]⟩ T C S=⟨q,((C|||S:Nat):Int),[a0,a1,a2,a3,a4,a5].set T (nth [a0,a1,a2,a3,a4,a5] T+1)⟩:=hq;rw [hw] at hR;refine Ze [] Tryz.func154 rfl yM ?_;rcases hT3 with rfl | rfl | rfl | rfl | rfl | rfl
 all_goals
  simp (disch:=omega) only [Tryz.f154,X4,YT,Zu,Zk,go_sem,seval,↓reduceIte];refine Z6 ?_;simp (disch:=omega) only [go_sem,seval,↓reduceIte];refine gF ?_ ?_<;>intro h5<;>simp (disch:=omega) only [Sh.out h5,go_sem,seval,↓reduceIte]
  ·have hno:(decide (C&&&S=0))=false:=Xn Za;exact ⟨.tup [.p (Am ⟨i,(C:Nat),[a0,a1,a2,a3,a4,a5]⟩),.p (.bool false)],_,Weak.mk (by simp (disch:=omega) only [Zu,Zk,go_sem,seval]),by rw [hR,if_neg (by rw [Dh,hno];simp)],rfl⟩
  ·have hcs:C&&&S=0:=Za
   refine cD ?_ ?_<;>intro h7<;>simp (disch:=omega) only [Sh.out h7,go_sem,seval,↓reduceIte]
   ·exact ⟨.tup [.p (Am ⟨i,(C:Nat),[a0,a1,a2,a3,a4,a5]⟩),.p (.bool false)],_,Weak.mk (by simp (disch:=omega) only [Zu,Zk,go_sem,seval]),by rw [hR,if_neg (by rw [Dh,XQ hcs,Wz];exact fun h=>Int.not_lt.2 h7 (Jo h))],rfl⟩
   ·rw [if_pos (by rw [Dh,XQ hcs,Wz];exact XQ (Int.not_le.1 h7))] at hR;refine hc.useP (L:= [_,_,_]) (by rfl) ?_ (by rfl) (by rfl);simp (disch:=omega) only [X4,YT,Zu,Zk,Xu,ZF,Z9,X7,go_sem,seval,↓reduceIte];exact ⟨R,_,Weak.mk (by rw [hR];simp (disch:=omega) only [nth,List.getD_cons_zero,List.getD_cons_succ,Z9,X7,Zu,Zk,go_sem,seval]),rfl,rfl⟩
def YK (o p r:Int):Int:=if 0<=r/\(o<0\/p+r<o) then p+r else o
theorem I6 (o p r:Int) (hp: -4611686018427387904<=p/\p<=4611686018427387904) (hr: -4611686018427387904<r/\r<4611686018427387904) :
  ACalls Tryz.prog 153 [.p (.int .i64 p),.p (.int .i64 r),.ptr 0 0] [.cells [.p (.int .i64 o)]] fun y H'=>y= .tup []/\H'= [.cells [.p (.int .i64 (YK o p r))]]:=by
 obtain ⟨T,hT⟩: ∃T,T=YK o p r:=⟨_,rfl⟩;rw [<- hT];unfold YK at hT;refine Ze [] Tryz.func153 rfl yL ?_;simp (disch:=omega) only [Tryz.f153,go_sem,seval];refine gT ?_ ?_<;>intro h1<;>simp (disch:=omega) only [Sh.out h1,go_sem,seval,↓reduceIte]
 ·refine gF ?_ ?_<;>intro h2<;>simp (disch:=omega) only [Sh.out h2,go_sem,seval,↓reduceIte]
  ·rw [if_pos ⟨h1,.inl h2⟩] at hT;subst hT;exact we
  ·refine cD ?_ ?_<;>intro h3<;>simp (disch:=omega) only [Sh.out h3,go_sem,seval,↓reduceIte]
   ·rw [if_pos ⟨h1,.inr h3⟩] at hT;subst hT;exact we
   ·rw [if_neg Za] at hT;subst hT;exact we
 ·rw [if_neg Za] at hT;subst hT;exact we
theorem BV {n:Nat} {m cov:Int} : ∀(f k:Nat),k<=AN n m cov f k
 | 0,k=>ZM _
 | f+1,k=>by
  rw [AN]
  split
  ·have:=BV (n:=n) (m:=m) (cov:=cov) f (k+1);omega
  ·omega
theorem PS {n:Nat} {m cov:Int} : ∀(f k:Nat),k<=n->AN n m cov f k<=n
 | 0,k,h=>h
 | f+1,k,h=>by
  rw [AN]
  split
  ·rename_i hc;exact PS f (k+1) Za
  ·exact h
theorem Tb {n:Nat} {m cov:Int} {k:Nat} (h:k<n) (hb:sHas cov k=true):k+1<=AN n m cov (n-k) k:=by
 grind [DJ,BV]
theorem BA {l:List Int} {i j:Nat} {a:Int} (h:i<l.length):nth (l.set i a) j=if i=j then a else nth l j:=by
 grind [nth]
structure StV (n:Nat) (s:St):Prop where
 len:StR s
 ix:0<=s.ix/\s.ix<=n
 cov: ∃C:Nat,s.cov=C/\C<1024
 used: ∀j,j<6->0<=nth s.used j/\nth s.used j<=1048576
theorem Io {n:Nat} {m:Int} {s:St} (h:StV n s):StV n (W0 n m s)/\s.ix<=(W0 n m s).ix:=by
 obtain ⟨h1,h2,h3,h4⟩:=h;have a:=BV (n:=n) (m:=m) (cov:=s.cov) (n-s.ix.toNat) s.ix.toNat;have b:=PS (n:=n) (m:=m) (cov:=s.cov) (n-s.ix.toNat) s.ix.toNat Za;exact ⟨⟨h1,by grind [W0],h3,h4⟩,by grind [W0]⟩
theorem HW {n:Nat} {m:Int} {s:St} (h:StV n s) (hi:s.ix<n):StV n (Cw n m s)/\s.ix<(Cw n m s).ix:=by
 have h':StV n { s with ix:=s.ix+1 } :=⟨h.len,by have:=h.ix;grind,h.cov,h.used⟩
 grind [Io,Cw]
theorem pO {C S k:Nat} (h:sHas (S:Int) k=true):sHas ((C|||S:Nat):Int) k=true:=by
 have key: ∀N:Nat,sHas (N:Int) k=true↔k<=62/\N.testBit k=true:=fun N=>by
  simp only [sHas,ZG,Zr,XU]
  grind
 grind
theorem qU {n:Nat} {m:Int} {s:St} {T C S:Nat} (h:StV n s) (hi:s.ix<n) (hC:C<1024) (hS:S<1024) (hb:sHas (S:Int) s.ix=true) (hT:T<6) (hu:nth s.used T<1048576):StV n (B3 n m s T C S)/\s.ix<(B3 n m s T C S).ix:=by
 have hor:C|||S<1024:=J5 (n:=10) hC hS;have hl:s.used.length=6:=h.len
 have h':StV n ⟨s.ix,((C|||S:Nat):Int),s.used.set T (nth s.used T+1)⟩:=by
  refine ⟨by grind [StR],h.ix,⟨_,rfl,hor⟩,fun j hj=> ?_⟩;simp only;rw [BA Za]
  split
  ·have:=h.used T hT;omega
  ·exact h.used j hj
 grind [Io,Tb,pO,B3,W0]
def Yp (x:Inst) (s:St) (c:Col):Bool:=Dh x s c.typ.toNat s.cov.toNat c.set.toNat
def Vb (n:Nat) (m:Int) (s:St) (c:Col):St:=B3 n m s c.typ.toNat s.cov.toNat c.set.toNat
def YV (n:Nat) (m:Int) (x:Inst) (fst:List (List Col)) (sk:List Int):Nat->St->Int
 | 0,_=>0
 | d+1,s=>if (n:Int)<=s.ix then 0 else
  let o:=(nth fst s.ix.toNat).foldl (fun o c=>if Yp x s c=true then YK o c.price (YV n m x fst sk d (Vb n m s c)) else o) (-1)
  if 0<=nth sk s.ix.toNat then YK o (nth sk s.ix.toNat) (YV n m x fst sk d (Cw n m s)) else o
structure ChOk (n:Nat) (x:Inst) (fst:List (List Col)) (sk:List Int):Prop where
 col: ∀i,i<n-> ∀c∈nth fst i,(0<=c.typ/\c.typ<x.types.length)/\(∃S:Nat,c.set=S/\S<1024)/\sHas c.set i=true/\0<=c.price/\c.price<=18014398509481984
 typ:x.types.length<=6/\ ∀t,t<6->(nth x.types t).count<=1048576
 skp: ∀i,i<n-> -1<=nth sk i/\nth sk i<=18014398509481984
theorem DM {n:Nat} {m:Int} {x:Inst} {fst:List (List Col)} {sk:List Int} (hc:ChOk n x fst sk) {s:St} (h:StV n s) (hi:s.ix<n) {c:Col} (hm:c∈nth fst s.ix.toNat) (hy:Yp x s c=true):StV n (Vb n m s c)/\s.ix<(Vb n m s c).ix:=by
 obtain ⟨⟨t0,t1⟩,⟨S,hS,hS2⟩,hb,_⟩:=hc.col _ (by have:=h.ix;omega) c hm;obtain ⟨C,hC,hC2⟩:=h.cov;have ht:=hc.typ.1;have hcnt:=hc.typ.2 c.typ.toNat Za;simp only [Yp,Dh,ZG,Zr] at hy;have hi0:=h.ix;rw [show ((s.ix.toNat:Nat):Int)=s.ix by omega] at hb;exact qU h hi Za Za (by grind) Za Za
theorem Jh {α β:Type} {f g:β->α->β} : ∀ {l:List α} {b:β},(∀a∈l,∀b,f b a=g b a)->l.foldl f b=l.foldl g b
 | [],_,_=>rfl
 | a::l,b,h=>by
  rw [Qc,Qc,h a Zb b];exact Jh fun a ha=>h a (Yv _ ha)
theorem QJ {n:Nat} {m:Int} {x:Inst} {fst:List (List Col)} {sk:List Int} (hc:ChOk n x fst sk): ∀(d d':Nat) (s:St),StV n s->(n:Int)-s.ix<d->(n:Int)-s.ix<d'->YV n m x fst sk d s=YV n m x fst sk d' s
 | 0,_,s,h,h1,_=>by have:=h.ix;omega
 | _,0,s,h,_,h1=>by have:=h.ix;omega
 | d+1,d'+1,s,h,h1,h2=>by
  rw [YV,YV]
  split
  ·rfl
  ·rename_i hi
   have e1:(nth fst s.ix.toNat).foldl (fun o c=>if Yp x s c=true then YK o c.price (YV n m x fst sk d (Vb n m s c)) else o) (-1)=(nth fst s.ix.toNat).foldl (fun o c=>if Yp x s c=true then YK o c.price (YV n m x fst sk d' (Vb n m s c)) else o) (-1):=Jh fun c hm o=>by
    by_cases hy:Yp x s c=true
    ·obtain ⟨v1,v2⟩:=DM (m:=m) hc h Za hm hy;rw [if_pos hy,if_pos hy,QJ hc d d' _ v1 Za Za]
    grind
   obtain ⟨v1,v2⟩:=HW (m:=m) h Za;rw [QJ hc d d' _ v1 Za Za];simp only [e1]
theorem I5 {o p r B:Int} (h1: -1<=o/\o<=B) (h2:0<=p) (h3:p+r<=B): -1<=YK o p r/\YK o p r<=B:=by
 grind [YK]
theorem Gh {α β:Type} {f:β->α->β} {R:β->Prop} : ∀ {l:List α} {b:β},R b->(∀a∈l,∀b,R b->R (f b a))->R (l.foldl f b)
 | [],_,h,_=>h
 | a::l,b,h,hf=>by
  rw [Qc];exact Gh (hf a Zb b h) fun a ha=>hf a (Yv _ ha)
theorem VK {n:Nat} {m:Int} {x:Inst} {fst:List (List Col)} {sk:List Int} (hc:ChOk n x fst sk): ∀(d:Nat) (s:St),StV n s-> -1<=YV n m x fst sk d s/\YV n m x fst sk d s<=(d:Int)*18014398509481984
 | 0,s,h=>by simp [YV]
 | d+1,s,h=>by
  rw [YV]
  split
  ·omega
  ·rename_i hi;have i0:=h.ix
   have e1: -1<=(nth fst s.ix.toNat).foldl (fun o c=>if Yp x s c=true then YK o c.price (YV n m x fst sk d (Vb n m s c)) else o) (-1)/\(nth fst s.ix.toNat).foldl (fun o c=>if Yp x s c=true then YK o c.price (YV n m x fst sk d (Vb n m s c)) else o) (-1)<=((d+1:Nat):Int)*18014398509481984:=by
    refine Gh (R:=fun o:Int=> -1<=o/\o<=((d+1:Nat):Int)*18014398509481984) Za fun c hm o ho=> ?_
    split
    ·rename_i hy;obtain ⟨v1,v2⟩:=DM (m:=m) hc h Za hm hy;have:=VK (m:=m) hc d _ v1;have:=(hc.col _ Za c hm).2.2.2;exact I5 ho Za Za
    ·exact ho
   have hs:=hc.skp s.ix.toNat Za;obtain ⟨v1,v2⟩:=HW (m:=m) h Za;have:=VK (m:=m) hc d _ v1;simp only
   split
   ·exact I5 e1 Za Za
   ·exact e1
def Y2 (l:List Col):PV:= .list false (l.map Xz)
@[go_sem] theorem ZgZ (l:List Col):Y2 l= .list false (l.map Xz):=ZP rfl rfl
def Hz (c:Col):AM.Obj:= .cells [.p (.int .i64 c.typ),.p (.int .i64 c.set),.p (.int .i64 c.price),.p (.int .i64 c.route.typ),.p (.int .i64 c.route.start),.p (.list c.route.rests_c (c.route.rests.map eB)),.p (.list c.route.visits_c (c.route.visits.map ZS))]
def tX (n:Nat) (m:Int) (x:Inst) (fst:List (List Col)) (sk:List Int) (l:List (St×Int)):Prop:= ∀p∈l,StV n p.1/\p.2=YV n m x fst sk 20 p.1
theorem ZgC {P Q:Prop} (h:Q) (e:Q->P:=by intro h;simp (disch:=omega) only [X4,YT,Kr,Zu,Zk,Xu,ZF,go_sem,seval];exact h):P:=e h
theorem Do (x:Inst) (fst:List (List Col)) (sk:List Int) (fc sc:Bool) (m:Int) (hn:x.orders.length<=10) (hf:fst.length=x.orders.length) (hs:sk.length=x.orders.length) (hc:ChOk x.orders.length x fst sk) (hcl: ∀r∈fst,r.length<=1048576) :
  ∀(d:Nat) (s:St) (l:List (St×Int)),d<=20->StV x.orders.length s->(x.orders.length:Int)-s.ix<d->tX x.orders.length m x fst sk l ->
   ACalls Tryz.prog 101 [.ptr 1 0,.p (Am s)] (X4 x (.list fc (fst.map Y2)) (.list sc (sk.map eI)) m l) fun y H'=> ∃l',tX x.orders.length m x fst sk l'/\y= .p (.int .i64 (YV x.orders.length m x fst sk 20 s))/\H'=X4 x (.list fc (fst.map Y2)) (.list sc (sk.map eI)) m l'
 | 0,s,l,_,hv,hd,_=>by have:=hv.ix;omega
 | d+1,s,l,hd0,hv,hd,hl=>by
  have ih:=Do x fst sk fc sc m hn hf hs hc hcl d;have hlR: ∀p∈l,StR p.1:=fun p hp=>(hl p hp).1.len;obtain ⟨i,v,a0,a1,a2,a3,a4,a5,rfl⟩:=YD hv.len;have hi:=hv.ix;simp only at hi hd;obtain ⟨i,rfl⟩: ∃k:Nat,i=k:=⟨i.toNat,Za⟩;obtain ⟨T,hT⟩: ∃T,T=YV x.orders.length m x fst sk 20 ⟨i,v,[a0,a1,a2,a3,a4,a5]⟩:=⟨_,rfl⟩;rw [<- hT];refine Ze [] Tryz.func101 rfl xA ?_;simp (disch:=omega) only [Tryz.f101,X4,YT,Zu,Zk,go_sem,seval];refine Z6 ?_;refine X8 ?_;refine cD ?_ ?_<;>intro h1<;>simp (disch:=omega) only [Sh.out h1,go_sem,seval]
  ·rw [YV,if_pos Za] at hT;subst hT;exact ⟨_,_,wk,l,hl,rfl,rfl⟩
  ·refine Z6 (X8 ?_);refine bV (FV (k:=(⟨i,v,[a0,a1,a2,a3,a4,a5]⟩:St)) NL hlR hv.len (by rfl)) (X8 ?_)
   cases hq:mq l (⟨i,v,[a0,a1,a2,a3,a4,a5]⟩:St) with
   | some w =>
    obtain ⟨_,hw⟩:=hl _ (ZbI hq);simp only at hw;rw [<- hw] at hT;subst hT;simp (disch:=omega) only [Jw,Jq,go_sem,seval];exact ⟨_,_,wk,l,hl,rfl,rfl⟩
   | none =>
    have hi2:i<fst.length:=Za
    have hi3:i<sk.length:=Za
    have hrl:=hcl _ (ZN hi2);simp (disch:=omega) only [KU,Option.getD_none,go_sem,seval];refine Z6 (X8 ?_)
    let F:Int->Col->Int:=fun o c=>if Yp x ⟨i,v,[a0,a1,a2,a3,a4,a5]⟩ c=true then YK o c.price (YV x.orders.length m x fst sk 19 (Vb x.orders.length m ⟨i,v,[a0,a1,a2,a3,a4,a5]⟩ c)) else o
    refine Zi [0,3,7,8,42,43] (fun q:Nat×List (St×Int)=> [(44,.p (.int .i64 q.1))]) (fun q=>X4 x (.list fc (fst.map Y2)) (.list sc (sk.map eI)) m q.2++ [Kr ⟨i,v,[a0,a1,a2,a3,a4,a5]⟩,.cells [.p (.int .i64 (((nth fst i).take q.1).foldl F (-1)))]]) (fun q=>q.1<=(nth fst i).length/\tX x.orders.length m x fst sk q.2) (fun q=>(nth fst i).length-q.1) (0,l) ⟨Zb,hl⟩ (Weak.mk ?_) ?_
    ·simp (disch:=omega) only [X4,YT,Kr,Zu,Zk,Xu,ZF,Wx,Qh,go_sem,seval,↓reduceIte]
    ·rintro ⟨k,l1⟩ ⟨hk,hl1⟩;simp only at hk hl1;have hl1R: ∀p∈l1,StR p.1:=fun p hp=>(hl1 p hp).1.len;generalize hacc:((nth fst i).take k).foldl F (-1)=acc;refine ZgC ?_;refine cD ?_ ?_<;>intro h2<;>simp (disch:=omega) only [Sh.out h2,go_sem,seval,↓reduceIte]
     ·have hk2:k<(nth fst i).length:=Za
      have hm:=ZN hk2
      have hs1:((nth fst i).take (k+1)).foldl F (-1)=F acc (nth (nth fst i) k):=by
       grind [Zx,Zj]
      obtain ⟨⟨t0,t1⟩,⟨S,hS,hS2⟩,hb,hp0,hp1⟩:=hc.col i Za _ hm;obtain ⟨C,hC,hC2⟩:=hv.cov;simp only at hC;have h6:=hc.typ.1;obtain ⟨tt,htt⟩: ∃tt:Nat,(nth (nth fst i) k).typ=tt:=⟨(nth (nth fst i) k).typ.toNat,Za⟩;have cw:=jO x (.list fc (fst.map Y2)) (.list sc (sk.map eI)) m l1 ⟨i,v,[a0,a1,a2,a3,a4,a5]⟩ (nth (nth fst i) k) hv.len Zb hn (by grind) C S tt hC hS htt hC2 hS2 Za h6 hv.used
      have hmay:Yp x ⟨i,v,[a0,a1,a2,a3,a4,a5]⟩ (nth (nth fst i) k)=Dh x ⟨i,v,[a0,a1,a2,a3,a4,a5]⟩ tt C S:=by grind [Yp,XU]
      have hwc:Vb x.orders.length m ⟨i,v,[a0,a1,a2,a3,a4,a5]⟩ (nth (nth fst i) k)=B3 x.orders.length m ⟨i,v,[a0,a1,a2,a3,a4,a5]⟩ tt C S:=by grind [Vb]
      by_cases hy:Dh x ⟨i,v,[a0,a1,a2,a3,a4,a5]⟩ tt C S=true
      ·obtain ⟨v1,v2⟩:=DM (m:=m) hc hv (by grind) (by simpa using hm) (by grind);rw [hwc] at v1 v2;obtain ⟨j,w,b0,b1,b2,b3,b4,b5,hw⟩:=YD v1.len;rw [if_pos hy,hw] at cw;refine cw.useP (L:= [_,_,_]) (by rfl) ?_ (by rfl) (by rfl);refine Zdl ?_;refine Q8 [5] [1,2] [4] 6 mixed Zd Zd Zd Zd Zb (X8 ?_);refine ⟨fun q hq p hp=> ?_,?_⟩
       ·simp only [Yj,Jp,or_false] at hq;rcases hq with rfl | rfl
        ·obtain rfl:10=p:=Vt hp;exact WW (by decide)
        ·obtain rfl:57=p:=Vt hp;exact WW (by decide)
       ·have c3:=((ih ⟨j,w,[b0,b1,b2,b3,b4,b5]⟩ l1 Za (hw ▸ v1) (by grind) hl1).mono (fun y H' hq=>(⟨hq,by obtain ⟨l',_,_,rfl⟩:=hq;rfl⟩:_/\H'.length=(X4 x (.list fc (fst.map Y2)) (.list sc (sk.map eI)) m l1).length))).front (by rfl) (by rfl) [Kr ⟨i,v,[a0,a1,a2,a3,a4,a5]⟩,.cells [.p (.int .i64 acc)],Hz (nth (nth fst i) k),Kr ⟨j,w,[b0,b1,b2,b3,b4,b5]⟩];refine Gs 5 _ Zd (by refine X8 ?_;exact c3) ?_;rintro y H' ⟨H1,⟨l2,hl2,rfl,rfl⟩,rfl⟩;refine ⟨fun k hk=>by simp at hk;subst hk;rfl,HS ?_⟩;simp (disch:=omega) only [X4,YT,Kr,Hz,Zu,Zk,Xu,ZF,go_sem,seval]
        have hrg:=VK (m:=m) hc 20 _ v1;rw [hw] at hrg;have c4:=(((I6 acc (nth (nth fst i) k).price (YV x.orders.length m x fst sk 20 ⟨j,w,[b0,b1,b2,b3,b4,b5]⟩) Za Za).back [.map (l2.map (Ln Am)),YT x (.list fc (fst.map Y2)) (.list sc (sk.map eI)) m,Kr ⟨i,v,[a0,a1,a2,a3,a4,a5]⟩] (by rfl)).mono (fun y H' hq=>(⟨hq,by grind⟩:_/\H'.length=4))).front (by rfl) (by rfl) [Hz (nth (nth fst i) k),Kr ⟨j,w,[b0,b1,b2,b3,b4,b5]⟩];refine ACalls.mono c4 ?_;rintro y H' ⟨H1,⟨y1,H2,⟨rfl,rfl⟩,rfl,rfl⟩,rfl⟩;simp (disch:=omega) only [YT,Kr,Hz,Zu,Zk,Xu,ZF,shO,shVs,shV,go_sem,seval]
        have hF:F acc (nth (nth fst i) k)=YK acc (nth (nth fst i) k).price (YV x.orders.length m x fst sk 20 ⟨j,w,[b0,b1,b2,b3,b4,b5]⟩):=by
         show (if _ then _ else _)=_
         rw [if_pos (by grind),hwc,QJ hc 19 20 _ v1 (by grind) (by grind),hw]
        exact ⟨(k+1,l2),⟨Za,hl2⟩,Za,Weak.mk (by simp (disch:=omega) only [hs1,hF,go_sem,seval])⟩
      ·rw [if_neg hy] at cw;refine cw.useP (L:= [_,_,_]) (by rfl) ?_ (by rfl) (by rfl);refine Zdl ?_;have hF:F acc (nth (nth fst i) k)=acc:=if_neg (by grind);exact ⟨(k+1,l1),⟨Za,hl1⟩,Za,Weak.mk (by simp (disch:=omega) only [hs1,hF,go_sem,seval])⟩
     ·have hkl:k=(nth fst i).length:=Za
      subst hkl;rw [Yu] at hacc
      have hTe:T=if 0<=nth sk i then YK acc (nth sk i) (YV x.orders.length m x fst sk 19 (Cw x.orders.length m ⟨i,v,[a0,a1,a2,a3,a4,a5]⟩)) else acc:=by
       rw [hT,show (20:Nat)=19+1 from rfl,YV,if_neg Za,<- hacc]
       rfl
      refine Z6 (X8 ?_);refine cD ?_ ?_<;>intro h3<;>simp (disch:=omega) only [Sh.out h3,go_sem,seval,↓reduceIte]
      ·have cn:=G3 x (.list fc (fst.map Y2)) (.list sc (sk.map eI)) m l1 ⟨i,v,[a0,a1,a2,a3,a4,a5]⟩ hv.len Zb hn (by grind);obtain ⟨v1,v2⟩:=HW (m:=m) hv (by grind);obtain ⟨j,w,b0,b1,b2,b3,b4,b5,hw⟩:=YD v1.len;have hsk:=hc.skp i Za;have hrg:=VK (m:=m) hc 20 _ v1;rw [hw] at cn v1 v2 hrg;simp only at v2;refine cn.useP (L:= [_,_]) (by rfl) ?_ (by rfl) (by rfl);refine Zdl ?_;have c3:=((ih ⟨j,w,[b0,b1,b2,b3,b4,b5]⟩ l1 Za v1 (by grind) hl1).mono (fun y H' hq=>(⟨hq,by obtain ⟨l',_,_,rfl⟩:=hq;rfl⟩:_/\H'.length=(X4 x (.list fc (fst.map Y2)) (.list sc (sk.map eI)) m l1).length))).front (by rfl) (by rfl) [Kr ⟨i,v,[a0,a1,a2,a3,a4,a5]⟩,.cells [.p (.int .i64 acc)]]
       refine ACalls.mono c3 ?_;rintro y H' ⟨H1,⟨l2,hl2,rfl,rfl⟩,rfl⟩;refine ZgC ?_;refine ACalls.mono ((I6 acc (nth sk i) (YV x.orders.length m x fst sk 20 ⟨j,w,[b0,b1,b2,b3,b4,b5]⟩) Za Za).back [.map (l2.map (Ln Am)),YT x (.list fc (fst.map Y2)) (.list sc (sk.map eI)) m,Kr ⟨i,v,[a0,a1,a2,a3,a4,a5]⟩] (by rfl)) ?_;rintro y H' ⟨y1,H2,⟨rfl,rfl⟩,rfl,rfl⟩;simp (disch:=omega) only [YT,Kr,Zu,Zk,Xu,ZF,shO,shVs,shV,go_sem,seval];refine Z3 6 mixed Zd Zd ?_
       refine X8 ?_;refine If (l:=l2) (k:=(⟨i,v,[a0,a1,a2,a3,a4,a5]⟩:St)) NL (fun p hp=>(hl2 p hp).1.len) hv.len (by rfl) fun l3 _ hl3=> ?_;simp (disch:=omega) only [Z9,go_sem,seval];rw [if_pos h3,QJ hc 19 20 _ (by grind) (by grind) (by grind),hw] at hTe;rw [<- hTe];exact ⟨.p (.int .i64 T),_,wk,l3,fun p hp=>(hl3 p hp).elim (hl2 p) (fun e=>by grind),rfl,rfl⟩
      ·refine Z3 6 mixed Zd Zd (X8 ?_);refine If (l:=l1) (k:=(⟨i,v,[a0,a1,a2,a3,a4,a5]⟩:St)) NL hl1R hv.len (by rfl) fun l3 _ hl3=> ?_;simp (disch:=omega) only [Z9,go_sem,seval];rw [if_neg h3] at hTe;rw [<- hTe];exact ⟨.p (.int .i64 T),_,wk,l3,fun p hp=>(hl3 p hp).elim (hl1 p) (fun e=>by grind),rfl,rfl⟩
def In (n:Nat) (m:Int) (x:Inst) (fst:List (List Col)) (sk:List Int) (s:St) (c:Col):Bool :=
 Yp x s c&&(decide (0<=YV n m x fst sk 20 (Vb n m s c))&&decide (c.price+YV n m x fst sk 20 (Vb n m s c)=YV n m x fst sk 20 s))
def Yf (n:Nat) (m:Int) (x:Inst) (fst:List (List Col)) (sk:List Int):Nat->St->List Col×List Int
 | 0,_=>([],[])
 | d+1,s=>if (n:Int)<=s.ix then ([],[]) else match (nth fst s.ix.toNat).find? (In n m x fst sk s) with
  | some c=>(c::(Yf n m x fst sk d (Vb n m s c)).1,(Yf n m x fst sk d (Vb n m s c)).2)
  | none=>((Yf n m x fst sk d (Cw n m s)).1,s.ix::(Yf n m x fst sk d (Cw n m s)).2)
theorem Lv {α:Type} [Inhabited α] {p:α->Bool} : ∀ {l:List α} {k:Nat},k<l.length->(∀j,j<k->p (nth l j)=false)->p (nth l k)=true->l.find? p=some (nth l k)
 | [],_,h,_,_=>by simp at h
 | a::l,0,_,_,h=>by
  grind [nth]
 | a::l,k+1,hk,h0,h=>by
  rw [List.find?_cons_of_neg (by rw [show p a=false from h0 0 Za];simp)];exact Lv (l:=l) (k:=k) (by simpa using hk) (fun j hj=>h0 (j+1) Za) h
theorem mX {α:Type} [Inhabited α] {p:α->Bool} {l:List α} (h: ∀j,j<l.length->p (nth l j)=false):l.find? p=none:=by
 rw [KT];intro a ha;obtain ⟨j,hj,rfl⟩:=Z4.1 ha
 grind [Zj]
theorem ZbW (X:AM.Obj) (hX: ∀H n,DN H n X X) (hX2: ∀o xs,Pc o xs X=X) (x:Inst) (fst:List (List Col)) (sk:List Int) (fc sc:Bool) (m:Int) (hn:x.orders.length<=10) (hf:fst.length=x.orders.length) (hs:sk.length=x.orders.length) (hc:ChOk x.orders.length x fst sk) (hcl: ∀r∈fst,r.length<=1048576)
  (s:St) (l:List (St×Int)) (hv:StV x.orders.length s) (hl:tX x.orders.length m x fst sk l) :
  ACalls Tryz.prog 102 [.ptr 1 0,.p (Am s)] (X4 x (.list fc (fst.map Y2)) (.list sc (sk.map eI)) m l++ [X]) fun y H'=> ∃l' A B,tX x.orders.length m x fst sk l'/\(A,B)=Yf x.orders.length m x fst sk 20 s /\
   y= .tup [.sl 4 0 A.length A.length,.p (.list false (B.map eI))]/\H'=X4 x (.list fc (fst.map Y2)) (.list sc (sk.map eI)) m l'++ [X,.cells (List.replicate 8 .junk),.elems 7 (A.map Xz)]:=by
 obtain ⟨i,v,a0,a1,a2,a3,a4,a5,rfl⟩:=YD hv.len;obtain ⟨D,hD⟩: ∃D,D=20:=⟨20,rfl⟩;obtain ⟨R,hR⟩: ∃R,R=Yf x.orders.length m x fst sk D ⟨i,v,[a0,a1,a2,a3,a4,a5]⟩:=⟨_,rfl⟩;rw [<- hD,<- hR];have hi0:=hv.ix;simp only at hi0;refine Ze [20] Tryz.func102 rfl xB ?_;simp (disch:=omega) only [Tryz.f102,Xu,ZF,X4,YT,Zu,Zk,go_sem,seval]
 refine ZI [20] [0,3] (fun q:Nat×St×List (St×Int)×List Col×List Int=> [(6,.sl 4 0 q.2.2.2.1.length q.2.2.2.1.length),(7,.sl 5 0 q.2.2.2.2.length q.2.2.2.2.length)])
  (fun q=>X4 x (.list fc (fst.map Y2)) (.list sc (sk.map eI)) m q.2.2.1++ [X,Kr q.2.1,.elems 7 (q.2.2.2.1.map Xz),.elems 1 (q.2.2.2.2.map eI)])
  (fun q=>q.1<=D/\StV x.orders.length q.2.1/\(x.orders.length:Int)-q.2.1.ix<q.1/\tX x.orders.length m x fst sk q.2.2.1/\(q.2.2.2.1.length:Int)<=q.2.1.ix/\(q.2.2.2.2.length:Int)<=q.2.1.ix/\R=(q.2.2.2.1++(Yf x.orders.length m x fst sk q.1 q.2.1).1,q.2.2.2.2++(Yf x.orders.length m x fst sk q.1 q.2.1).2))
  (fun q=>q.1) (D,⟨i,v,[a0,a1,a2,a3,a4,a5]⟩,l,[],[]) ⟨Zb,hv,by grind,hl,by grind,by grind,by rw [hR];rfl⟩
  (Weak.ofNil 6 7 (by simp (disch:=omega) only [go_sem,seval]) Zb (Weak.ofNil 7 1 (by simp (disch:=omega) only [go_sem,seval]) Zb (Weak.mk ?_))) ?_
 ·simp (disch:=omega) only [hX,X4,YT,Kr,Zu,Zk,Xu,ZF,ZH,go_sem,seval,↓reduceIte]
 ·rintro ⟨d,s,l1,A,B⟩ ⟨hd1,hsv,hd,hl1,hA,hB,hq⟩;simp only at hd1 hsv hd hl1 hA hB hq;clear hv hR hi0;obtain ⟨i,v,a0,a1,a2,a3,a4,a5,rfl⟩:=YD hsv.len;have hi0:=hsv.ix;simp only at hi0 hd hA hB hq;obtain ⟨i,rfl⟩: ∃k:Nat,i=k:=⟨i.toNat,Za⟩;obtain ⟨d,rfl⟩: ∃k,d=k+1:=⟨d-1,Za⟩;refine ZgC ?_;refine Z6 ?_;refine X8 ?_;refine cD ?_ ?_<;>intro h1<;>simp (disch:=omega) only [Sh.out h1,go_sem,seval,↓reduceIte]
  ·have hi2:i<fst.length:=Za
   have hrl:=hcl _ (ZN hi2);have c3:=((Do x fst sk fc sc m hn hf hs hc hcl 20 ⟨i,v,[a0,a1,a2,a3,a4,a5]⟩ l1 Za hsv (by grind) hl1).mono (fun y H' hq=>(⟨hq,by obtain ⟨l',_,_,rfl⟩:=hq;rfl⟩:_/\H'.length=(X4 x (.list fc (fst.map Y2)) (.list sc (sk.map eI)) m l1).length))).front (by rfl) (by rfl) [X,Kr ⟨i,v,[a0,a1,a2,a3,a4,a5]⟩,.elems 7 (A.map Xz),.elems 1 (B.map eI)];refine ACalls.mono c3 ?_;rintro y H' ⟨H1,⟨l2,hl2,rfl,rfl⟩,rfl⟩;clear hl1 c3;obtain ⟨W,hW⟩: ∃W,W=YV x.orders.length m x fst sk 20 ⟨i,v,[a0,a1,a2,a3,a4,a5]⟩:=⟨_,rfl⟩
   rw [<- hW]
   have hWr: -1<=W/\W<=20*18014398509481984:=by rw [hW];exact VK hc 20 _ hsv
   refine ZgC ?_;refine Z6 (X8 ?_);refine Zi [0,3,7,8,34,35] (fun q:Nat×List (St×Int)=> [(6,.sl 4 0 A.length A.length),(9,.p (.bool false)),(36,.p (.int .i64 q.1))]) (fun q=>X4 x (.list fc (fst.map Y2)) (.list sc (sk.map eI)) m q.2++ [X,Kr ⟨i,v,[a0,a1,a2,a3,a4,a5]⟩,.elems 7 (A.map Xz),.elems 1 (B.map eI)]) (fun q=>q.1<=(nth fst i).length/\tX x.orders.length m x fst sk q.2/\ ∀j,j<q.1->In x.orders.length m x fst sk ⟨i,v,[a0,a1,a2,a3,a4,a5]⟩ (nth (nth fst i) j)=false) (fun q=>(nth fst i).length-q.1) (0,l2) ⟨Zb,hl2,fun j hj=>by simp at hj⟩ (Weak.mk ?_) ?_
   ·simp (disch:=omega) only [hX,X4,YT,Kr,Zu,Zk,Xu,ZF,go_sem,seval,↓reduceIte]
   ·rintro ⟨k,l1⟩ ⟨hk,hl1,hno⟩;simp only at hk hl1 hno;refine ZgC ?_;refine cD ?_ ?_<;>intro h2<;>simp (disch:=omega) only [Sh.out h2,go_sem,seval,↓reduceIte]
    ·have hk2:k<(nth fst i).length:=Za
     have hm:=ZN hk2;obtain ⟨⟨t0,t1⟩,⟨S,hS,hS2⟩,hb,hp0,hp1⟩:=hc.col i Za _ hm;obtain ⟨C,hC,hC2⟩:=hsv.cov;simp only at hC;have h6:=hc.typ.1;obtain ⟨tt,htt⟩: ∃tt:Nat,(nth (nth fst i) k).typ=tt:=⟨(nth (nth fst i) k).typ.toNat,Za⟩;have cw:=jO x (.list fc (fst.map Y2)) (.list sc (sk.map eI)) m l1 ⟨i,v,[a0,a1,a2,a3,a4,a5]⟩ (nth (nth fst i) k) hsv.len Zb hn (by grind) C S tt hC hS htt hC2 hS2 Za h6 hsv.used
     have hmay:Yp x ⟨i,v,[a0,a1,a2,a3,a4,a5]⟩ (nth (nth fst i) k)=Dh x ⟨i,v,[a0,a1,a2,a3,a4,a5]⟩ tt C S:=by grind [Yp]
     have hwc:Vb x.orders.length m ⟨i,v,[a0,a1,a2,a3,a4,a5]⟩ (nth (nth fst i) k)=B3 x.orders.length m ⟨i,v,[a0,a1,a2,a3,a4,a5]⟩ tt C S:=by grind [Vb]
     have more:In x.orders.length m x fst sk ⟨i,v,[a0,a1,a2,a3,a4,a5]⟩ (nth (nth fst i) k)=false-> ∀j,j<k+1->In x.orders.length m x fst sk ⟨i,v,[a0,a1,a2,a3,a4,a5]⟩ (nth (nth fst i) j)=false:=fun h j hj=>by
      grind
     by_cases hy:Dh x ⟨i,v,[a0,a1,a2,a3,a4,a5]⟩ tt C S=true
     ·obtain ⟨v1,v2⟩:=DM (m:=m) hc hsv Za (by simpa using hm) (by grind);rw [hwc] at v1 v2;obtain ⟨j,w,b0,b1,b2,b3,b4,b5,hw⟩:=YD v1.len;rw [if_pos hy,hw] at cw;refine cw.useP (L:= [_,_,_,_,_]) (by rfl) ?_ (by rfl) (by rfl);refine Zdl ?_;have c3:=((Do x fst sk fc sc m hn hf hs hc hcl 20 ⟨j,w,[b0,b1,b2,b3,b4,b5]⟩ l1 Za (hw ▸ v1) (by grind) hl1).mono (fun y H' hq=>(⟨hq,by obtain ⟨l',_,_,rfl⟩:=hq;rfl⟩:_/\H'.length=(X4 x (.list fc (fst.map Y2)) (.list sc (sk.map eI)) m l1).length))).front (by rfl) (by rfl) [X,Kr ⟨i,v,[a0,a1,a2,a3,a4,a5]⟩,.elems 7 (A.map Xz),.elems 1 (B.map eI),Hz (nth (nth fst i) k),Kr ⟨j,w,[b0,b1,b2,b3,b4,b5]⟩]
      refine ACalls.mono c3 ?_;rintro y H' ⟨H1,⟨l3,hl3,rfl,rfl⟩,rfl⟩;have hTr:=VK (m:=m) hc 20 _ v1
      have hsel:In x.orders.length m x fst sk ⟨i,v,[a0,a1,a2,a3,a4,a5]⟩ (nth (nth fst i) k)=(decide (0<=YV x.orders.length m x fst sk 20 ⟨j,w,[b0,b1,b2,b3,b4,b5]⟩)&&decide ((nth (nth fst i) k).price+YV x.orders.length m x fst sk 20 ⟨j,w,[b0,b1,b2,b3,b4,b5]⟩=W)):=by
       rw [In,hmay,hy,hwc,hw,hW,Wz]
      rw [hw] at hTr;generalize YV x.orders.length m x fst sk 20 ⟨j,w,[b0,b1,b2,b3,b4,b5]⟩=T at hTr hsel;simp (disch:=omega) only [X4,YT,Kr,Hz,Zu,Zk,Xu,ZF,go_sem,seval];refine gT ?_ ?_<;>intro h3<;>simp (disch:=omega) only [Sh.out h3,go_sem,seval,↓reduceIte]
      ·refine cD ?_ ?_<;>intro h4<;>simp (disch:=omega) only [Sh.out h4,go_sem,seval,↓reduceIte]
       ·rw [XQ h3,XQ h4,Wz] at hsel
        have hp:Yf x.orders.length m x fst sk (d+1) ⟨i,v,[a0,a1,a2,a3,a4,a5]⟩=(nth (nth fst i) k::(Yf x.orders.length m x fst sk d ⟨j,w,[b0,b1,b2,b3,b4,b5]⟩).1,(Yf x.orders.length m x fst sk d ⟨j,w,[b0,b1,b2,b3,b4,b5]⟩).2):=by
         rw [Yf,if_neg (by grind)];simp only [XU,Lv hk2 hno hsel,hwc,hw]
        rw [hw] at v1 v2;simp only at v2;rw [hp] at hq;exact ⟨(d,⟨j,w,[b0,b1,b2,b3,b4,b5]⟩,l3,A++ [nth (nth fst i) k],B),⟨Za,v1,by grind,hl3,by grind,by grind,by grind⟩,Za,Weak.mk (by simp (disch:=omega) only [hX,Zu,Zk,Xm,ZQ,Zs,ZH,XV,go_sem,seval])⟩
       ·rw [Xn h4,Qe] at hsel;exact ⟨(k+1,l3),⟨Za,hl3,more hsel⟩,Za,Weak.mk (by simp (disch:=omega) only [hX,go_sem,seval])⟩
      ·rw [Xn h3,Vs] at hsel;exact ⟨(k+1,l3),⟨Za,hl3,more hsel⟩,Za,Weak.mk (by simp (disch:=omega) only [hX,go_sem,seval])⟩
     ·rw [if_neg hy] at cw;refine cw.useP (L:= [_,_,_,_,_]) (by rfl) ?_ (by rfl) (by rfl);refine Zdl ?_;exact ⟨(k+1,l1),⟨Za,hl1,more (by rw [In,hmay,Bool.eq_false_iff.2 hy,Vs])⟩,Za,Weak.mk (by simp (disch:=omega) only [hX,go_sem,seval])⟩
    ·have hkl:k=(nth fst i).length:=Za
     subst hkl
     have hp:Yf x.orders.length m x fst sk (d+1) ⟨i,v,[a0,a1,a2,a3,a4,a5]⟩=((Yf x.orders.length m x fst sk d (Cw x.orders.length m ⟨i,v,[a0,a1,a2,a3,a4,a5]⟩)).1,(i:Int)::(Yf x.orders.length m x fst sk d (Cw x.orders.length m ⟨i,v,[a0,a1,a2,a3,a4,a5]⟩)).2):=by
      simp_all [Yf,mX]
     rw [hp] at hq;have cn:=G3 x (.list fc (fst.map Y2)) (.list sc (sk.map eI)) m l1 ⟨i,v,[a0,a1,a2,a3,a4,a5]⟩ hsv.len Zb hn (by grind);obtain ⟨v1,v2⟩:=HW (m:=m) hsv Za;obtain ⟨j,w,b0,b1,b2,b3,b4,b5,hw⟩:=YD v1.len;rw [hw] at cn v1 v2 hq;simp only at v2;refine cn.useP (L:= [_,_,_,_,_]) (by rfl) ?_ (by rfl) (by rfl);refine Zdl ?_;exact ⟨(d,⟨j,w,[b0,b1,b2,b3,b4,b5]⟩,l1,A,B++ [(i:Int)]),⟨Za,v1,by grind,hl1,by grind,by grind,by grind⟩,Za,Weak.mk (by simp (disch:=omega) only [hX,Zu,Zk,Xm,ZQ,Zs,ZH,XV,go_sem,seval])⟩
  ·rw [Yf,if_pos (by grind)] at hq;simp only [Wc] at hq;subst hq;refine Zp (Weak.fz (o:=5) (by rfl)) (Zf [] _ _ _ _ (V4 ?_));exact ⟨.tup [.sl 4 0 A.length A.length,.p (.list false (B.map eI))],_,Weak.mk (by simp (disch:=omega) only [hX,hX2,go_sem,seval]),l1,A,B,hl1,rfl,rfl,rfl⟩
theorem Nn (a b:Col) (ha:a.route.visits.length<=1048576) (hb:b.route.visits.length<=1048576):PC 239 [.p (Xz a),.p (Xz b)] (.bool (UF a b)):=by
 refine Zc Tryz.func239 rfl Zao ?_;simp (disch:=omega) only [Tryz.f239,go_sem,seval];refine cD ?_ ?_<;>intro h<;>simp (disch:=omega) only [Sh.out h,go_sem,seval,↓reduceIte]
 ·rw [UF,if_pos h]
 ·refine (Ta a.route.visits b.route.visits a.route.visits_c b.route.visits_c ha hb).use (X8 ?_);rw [UF,if_neg h]
def VB : Col:=⟨0,0,0,⟨0,0,true,[],true,[]⟩⟩
def HA : AM.Obj:= .cells ((RF VB).map .p)
def JO (one:Nat->List Col):Nat->List Col
 | 0=> []
 | q+1=>JO one q++one (q+1)
theorem Kl {one:Nat->List Col} (h: ∀q,(one q).length<=1): ∀q,(JO one q).length<=q
 | 0=>ZM _
 | q+1=>by
  have:=Kl h q;have:=h (q+1);rw [JO,ZQ];omega
theorem iC (n:Nat) (h:n<=4):ACalls Tryz.prog 91 [.p (.list false [.int .i64 (-1)]),.p (.int .i64 n)] [] fun y H'=>y= .sl 0 0 n n/\H'= [.elems 1 ((Y8 (fun _=> -1) n).map eI)]:=by
 match n,h with
 | 0,_=>exact YA { kp:= [91] } 20 mixed Zd
 | 1,_=>exact YA { kp:= [91] } 20 mixed Zd
 | 2,_=>exact YA { kp:= [91] } 20 mixed Zd
 | 3,_=>exact YA { kp:= [91] } 20 mixed Zd
 | 4,_=>exact YA { kp:= [91] } 20 mixed Zd
theorem Lz : ∀(l:List Int),CW (l.map eI)=true
 | []=>rfl
 | a::l=>by simp [CW,NE,eI,Lz l]
def Bm (x:Inst) (p:Pln):V:=if Ys x p=0 then .tup [.p (.list false ((Dg x p).map eI)),.p (.int .i64 0)] else .tup [.p (.list true []),.p (.int .i64 (Ys x p))]
theorem Si (x:Inst) (p:Pln) (hn:x.orders.length<=4) (ht:x.types.length<=1048576) (hr:p.routes.length<=1048576) (hv: ∀r∈p.routes,r.visits.length<=1048576) :
  ACalls Tryz.prog 53 [.p (Zv x),.p (Wk p)] [] fun y H'=>y=Bm x p/\H'= []:=by
 have hrp:=iC x.orders.length hn;have hgl: ∀f,(Y8 f x.orders.length).length=x.orders.length:=fun f=>ES;have h0:Y8 (fun _=> -1) x.orders.length=Y8 (Xt p.routes 0) x.orders.length:=rfl;refine Ze [2] Tryz.func53 rfl ZhE ?_;simp (disch:=omega) only [Tryz.f53,go_sem,seval];refine ACalls.viewF hrp (by rfl) (Lz _) (X8 ?_);refine Zf [26] _ _ _ _ (X8 ?_);refine ZI [26] [2,3,6,21,22] (fun k:Nat=> [(7,.p (.bool (MK p.routes k))),(23,.p (.int .i64 k))]) (fun k=> [Zg x,Xe p,.elems 1 [.int .i64 (-1)],.elems 1 ((Y8 (Xt p.routes k) x.orders.length).map eI)]) (fun k=>k<=p.routes.length/\ ∀j,j<k->QO x (nth p.routes j)=false) (fun k=>p.routes.length-k) 0 Zb (Weak.mk ?_) ?_
 ·simp (disch:=omega) only [Zg,Xe,h0,MK,go_sem,seval]
 ·rintro k ⟨hk,hno⟩;refine B0 ?_;refine cD ?_ ?_<;>intro h1<;>simp (disch:=omega) only [Sh.out h1,go_sem,seval,↓reduceIte]
  ·have hk2:k<p.routes.length:=Za
   have hvl:=hv _ (Zn hk2);have hbt:(nth p.routes k).typ<0\/(x.types.length:Int)<=(nth p.routes k).typ->Ys x p=2:=fun h=>Bl hk2 (by simp_all [QO]);have hbv: ∀q,q<(nth p.routes k).visits.length->Fb x.orders.length (nth (nth p.routes k).visits q)=true->Ys x p=2:=fun q hq h=>Bl hk2 (by rw [QO,Ur];grind [Zn]);refine gF ?_ ?_<;>intro h2<;>simp (disch:=omega) only [Sh.out h2,go_sem,seval,↓reduceIte]
   ·rw [Bm,hbt (.inl h2)];exact we (by simp (disch:=omega) only [go_sem,seval,↓reduceIte])
   ·refine cD ?_ ?_<;>intro h3<;>simp (disch:=omega) only [Sh.out h3,go_sem,seval,↓reduceIte]
    ·rw [Bm,hbt (.inr h3)];exact we (by simp (disch:=omega) only [go_sem,seval,↓reduceIte])
    ·obtain ⟨vs,hvs⟩: ∃vs,vs=(nth p.routes k).visits:=⟨_,rfl⟩;rw [<- hvs] at hvl hbv
     have hm0:Xt p.routes k=Qk p.routes k (vs.take 0):=by rfl
     have ht0:MK p.routes k=(MK p.routes k||P1 p.routes k (vs.take 0)):=by simp [P1]
     refine Zi [2,3,6,8,21,22,23,40,41] (fun q:Nat=> [(7,.p (.bool (MK p.routes k||P1 p.routes k (vs.take q)))),(42,.p (.int .i64 q))]) (fun q=> [Zg x,Xe p,.elems 1 [.int .i64 (-1)],.elems 1 ((Y8 (Qk p.routes k (vs.take q)) x.orders.length).map eI),ZK (nth p.routes k)]) (fun q=>q<=vs.length/\ ∀j,j<q->0<=(nth vs j).order/\(nth vs j).order<(x.orders.length:Int)) (fun q=>vs.length-q) 0 Zb (Weak.mk ?_) ?_
     ·simp (disch:=omega) only [Zg,Xe,ZK,<- hvs,go_sem,seval]
      grind
     ·rintro q ⟨hq,hin⟩;simp (disch:=omega) only [Zg,Xe,ZK,<- hvs,go_sem,seval];refine ZB ?_ ?_<;>intro h4
      ·have hq2:q<vs.length:=Za
       have htk:vs.take (q+1)=vs.take q++ [nth vs q]:=by rw [Zx hq2,Zj hq2]
       refine gF ?_ ?_<;>intro h5<;>simp (disch:=omega) only [Sh.out h5,go_sem,seval,↓reduceIte]
       ·rw [Bm,hbv q hq2 (by simp [Fb,h5])];exact we (by simp (disch:=omega) only [go_sem,seval,↓reduceIte])
       ·refine cD ?_ ?_<;>intro h6<;>simp (disch:=omega) only [Sh.out h6,go_sem,seval]
        ·rw [Bm,hbv q hq2 (by simp [Fb,h6])];exact we (by simp (disch:=omega) only [go_sem,seval,↓reduceIte])
        ·have hvo:0<=(nth vs q).order/\(nth vs q).order<(x.orders.length:Int):=⟨Za,Za⟩
         have hvn:(nth vs q).order.toNat<x.orders.length:=Za
         have htw:=jD (rs:=p.routes) (k:=k) (l:=vs.take q) (v:=nth vs q) hvo.1 (b:=MK p.routes k);rw [<- htk] at htw;have hms:=Sf (rs:=p.routes) (k:=k) (l:=vs.take q) (v:=nth vs q) hvo;rw [<- htk] at hms
         have hset:((Y8 (Qk p.routes k (vs.take q)) x.orders.length).map eI).set (nth vs q).order.toNat (.int .i64 k)=(Y8 (Qk p.routes k (vs.take (q+1))) x.orders.length).map eI:=by rw [<- hms,W6];rfl
         have he:U6 ((Y8 (Qk p.routes k (vs.take q)) x.orders.length).map eI) (nth vs q).order.toNat= .int .i64 (Qk p.routes k (vs.take q) (nth vs q).order.toNat):=by rw [WK (by grind),ET hvn];rfl
         have hrl:=hgl (Qk p.routes k (vs.take q));have hrg:=eL (rs:=p.routes) (k:=k) (l:=vs.take q) (o:=(nth vs q).order.toNat);generalize Qk p.routes k (vs.take q) (nth vs q).order.toNat=M at he htw hrg;have hnx: ∀j,j<q+1->0<=(nth vs j).order/\(nth vs j).order<(x.orders.length:Int):=Zm.2 ⟨hin,hvo⟩;generalize (MK p.routes k||P1 p.routes k (vs.take q))=B at htw ⊢
         cases B with
         | true =>
          rw [Bool.true_or] at htw;simp (disch:=first | omega | (simp only [Zs,ZH,ZQ,Xp,ZA,Xg]<;>omega)) only [eq_self,go_sem,seval];exact ⟨q+1,⟨Za,hnx⟩,Za,Weak.mk (by simp (disch:=omega) only [hset,<- htw,<- hvs,go_sem,seval])⟩
         | false =>
          rw [Bool.false_or] at htw;simp (disch:=first | omega | (simp only [Zs,ZH,ZQ,Xp,ZA,Xg]<;>omega)) only [he,hrl,hvn,eq_self,go_sem,seval,↓reduceIte];refine gT ?_ ?_<;>intro h7<;>simp (disch:=omega) only [Sh.out h7,go_sem,seval,↓reduceIte]
          ·rw [XQ h7,Wz] at htw;simp (disch:=first | omega | (simp only [Zs,ZH,ZQ,Xp,ZA,Xg]<;>omega)) only [he,hrl,hvn,eq_self,go_sem,seval];exact ⟨q+1,⟨Za,hnx⟩,Za,Weak.mk (by simp (disch:=omega) only [hset,<- htw,<- hvs,go_sem,seval])⟩
          ·rw [Xn h7,Vs] at htw;simp (disch:=first | omega | (simp only [Zs,ZH,ZQ,Xp,ZA,Xg]<;>omega)) only [eq_self,go_sem,seval];exact ⟨q+1,⟨Za,hnx⟩,Za,Weak.mk (by simp (disch:=omega) only [hset,<- htw,<- hvs,go_sem,seval])⟩
      ·have hql:q=vs.length:=Za
       subst hql
       have hgood:QO x (nth p.routes k)=false:=by
        rw [QO,Bool.or_eq_false_iff];refine ⟨by simp [h2,h3],?_⟩;rw [<- hvs,VU];intro v hm;obtain ⟨j,hj,rfl⟩:=Z4.1 hm
        grind [Zj,Fb]
       rw [Yu]
       have e1:Qk p.routes k vs=Xt p.routes (k+1):=by grind [eK]
       have e2:(MK p.routes k||P1 p.routes k vs)=MK p.routes (k+1):=by rw [hvs];rfl
       exact ⟨k+1,⟨Za,Zm.2 ⟨hno,hgood⟩⟩,Za,Weak.mk (by simp (disch:=omega) only [e1,e2,go_sem,seval])⟩
  ·have hkl:k=p.routes.length:=Za
   subst hkl;have hz:=HQ hno
   cases htw:MK p.routes p.routes.length with
   | true =>
    rw [if_pos htw] at hz;rw [Bm,hz];refine X8 ?_;exact we
   | false =>
    rw [if_neg (by grind)] at hz;rw [Bm,if_pos hz];simp (disch:=first | omega | (simp only [Zs,ZH,ZQ,Xp,ZA,Xg]<;>omega)) only [hgl,eq_self,go_sem,seval,↓reduceIte];refine ZI [26] [3,12,84,85] (fun j:Nat=> [(86,.p (.int .i64 j))]) (fun j=> [Zg x,Xe p,.elems 1 [.int .i64 (-1)],.elems 1 ((Y8 (fun o=>if o<j then Jm p.routes (Xt p.routes p.routes.length o) else Xt p.routes p.routes.length o) x.orders.length).map eI)]) (fun j=>j<=x.orders.length) (fun j=>x.orders.length-j) 0 Zb (Weak.mk ?_) ?_
    ·refine B0 ?_;simp
    ·intro j hj;have hrl:=hgl (fun o=>if o<j then Jm p.routes (Xt p.routes p.routes.length o) else Xt p.routes p.routes.length o);refine B0 ?_;refine cD ?_ ?_<;>intro h2<;>simp (disch:=omega) only [Sh.out h2,go_sem,seval,↓reduceIte]
     ·have hj2:j<x.orders.length:=Za
      have hrg:=QG (rs:=p.routes) (o:=j) p.routes.length
      have he:U6 ((Y8 (fun o=>if o<j then Jm p.routes (Xt p.routes p.routes.length o) else Xt p.routes p.routes.length o) x.orders.length).map eI) j= .int .i64 (Xt p.routes p.routes.length j):=by rw [WK Za,ET hj2,if_neg Za];rfl
      have hset:((Y8 (fun o=>if o<j then Jm p.routes (Xt p.routes p.routes.length o) else Xt p.routes p.routes.length o) x.orders.length).map eI).set j (.int .i64 (Jm p.routes (Xt p.routes p.routes.length j)))=(Y8 (fun o=>if o<j+1 then Jm p.routes (Xt p.routes p.routes.length o) else Xt p.routes p.routes.length o) x.orders.length).map eI:=by
       rw [show PV.int .i64 (Jm p.routes (Xt p.routes p.routes.length j))=eI (Jm p.routes (Xt p.routes p.routes.length j)) from rfl,<- W6,Mf]
       grind
      have hsame:Xt p.routes p.routes.length j<0->(Y8 (fun o=>if o<j+1 then Jm p.routes (Xt p.routes p.routes.length o) else Xt p.routes p.routes.length o) x.orders.length)=(Y8 (fun o=>if o<j then Jm p.routes (Xt p.routes p.routes.length o) else Xt p.routes p.routes.length o) x.orders.length):=fun h=>by
       refine DI fun o _=> ?_
       by_cases c:o=j
       ·subst c;rw [if_pos Za,if_neg Za,Jm,if_neg Za];omega
       omega
      simp (disch:=first | omega | (simp only [Zs,ZH,ZQ,Xp,ZA,Xg]<;>omega)) only [he,hrl,hj2,eq_self,go_sem,seval,↓reduceIte];generalize hL:Xt p.routes p.routes.length j=L at he hset hsame hrg ⊢;refine ZB ?_ ?_<;>intro h3
      ·have hty:Jm p.routes L=(nth p.routes L.toNat).typ:=by rw [Jm,if_pos h3]
       have hlt:L<(p.routes.length:Int):=hrg.2;rw [hty] at hset;simp (disch:=first | omega | (simp only [Zs,ZH,ZQ,Xp,ZA,Xg]<;>omega)) only [eq_self,go_sem,seval];exact ⟨j+1,Za,Za,Weak.mk (by simp (disch:=omega) only [hset,go_sem,seval])⟩
      ·exact ⟨j+1,Za,Za,Weak.mk (by simp (disch:=omega) only [hsame Za,go_sem,seval])⟩
     ·have hjl:j=x.orders.length:=Za
      have hfin:Y8 (fun o=>if o<j then Jm p.routes (Xt p.routes p.routes.length o) else Xt p.routes p.routes.length o) x.orders.length=Dg x p:=DI fun o ho=>Za
      rw [hfin];have hkl:=Ep (x:=x) (p:=p);refine Zp (Weak.fz (o:=3) (by rfl)) (Zf [] _ _ _ _ (V4 ?_));rw [if_pos hkl];exact we
theorem ZgY {α:Type} [Inhabited α] {l:List α} {k:Nat} (h:k<l.length):(l.take (k+1)).drop k= [nth l k]:=by
 grind [CV]
theorem dS {x:Inst} {p:Pln} {o:Nat} (hno: ∀j,j<p.routes.length->QO x (nth p.routes j)=false) (h:2<=nW p.routes (o:Int) p.routes.length):Ys x p=6:=by
 rw [HQ hno,if_pos];refine (DL fun j hj v hv=>((QP (hno j hj)).2 v hv).1).2 ⟨o,h,?_⟩
 grind [Qm]
theorem R8 {x:Inst} {p:Pln} (hno: ∀j,j<p.routes.length->QO x (nth p.routes j)=false) (h: ∀o:Nat,o<x.orders.length->nW p.routes (o:Int) p.routes.length<=1):Ys x p=0:=by
 rw [HQ hno,if_neg];intro h2;obtain ⟨o,h3,j,hj,h4⟩:=(DL fun j hj v hv=>((QP (hno j hj)).2 v hv).1).1 h2;obtain ⟨v,hv,e⟩:=Yn.1 h4;have:=(QP (hno j hj)).2 v hv
 grind
theorem Ol (x:Inst) (p:Pln) (hn:x.orders.length<=1048576) (ht:x.types.length<=1048576) (hr:p.routes.length<=1048576) (hv: ∀r∈p.routes,r.visits.length<=1048576) :
  PC 132 [.p (Zv x),.p (Wk p)] (.int .i64 (Ys x p)):=by
 refine Zc Tryz.func132 rfl xT ?_;simp (disch:=omega) only [Tryz.f132,go_sem,seval];refine Zi [2,3] (fun k:Nat=> [(5,.p (.int .i64 k))]) (fun _=> [Zg x,Xe p]) (fun k=>k<=p.routes.length/\ ∀j,j<k->QO x (nth p.routes j)=false) (fun k=>p.routes.length-k) 0 Zb (Weak.mk ?_) ?_
 ·simp (disch:=omega) only [Zg,Xe,go_sem,seval]
 ·rintro k ⟨hk,hno⟩;refine B0 ?_;refine cD ?_ ?_<;>intro h1<;>simp (disch:=omega) only [Sh.out h1,go_sem,seval,↓reduceIte]
  ·have hk2:k<p.routes.length:=Za
   have hvl:=hv _ (Zn hk2);have hbt:(nth p.routes k).typ<0\/(x.types.length:Int)<=(nth p.routes k).typ->Ys x p=2:=fun h=>Bl hk2 (by simp_all [QO]);have hbv: ∀q,q<(nth p.routes k).visits.length->Fb x.orders.length (nth (nth p.routes k).visits q)=true->Ys x p=2:=fun q hq h=>Bl hk2 (by rw [QO,Ur];grind [Zn]);refine Z6 (X8 ?_);refine gF ?_ ?_<;>intro h2<;>simp (disch:=omega) only [Sh.out h2,go_sem,seval,↓reduceIte]
   ·grind
   ·refine cD ?_ ?_<;>intro h3<;>simp (disch:=omega) only [Sh.out h3,go_sem,seval]
    ·grind
    ·refine Zi [2,3,5] (fun q:Nat=> [(6,.p (.int .i64 q))]) (fun q=> [Zg x,Xe p]) (fun q=>q<=(nth p.routes k).visits.length/\ ∀j,j<q->Fb x.orders.length (nth (nth p.routes k).visits j)=false) (fun q=>(nth p.routes k).visits.length-q) 0 Zb (Weak.mk ?_) ?_
     ·simp (disch:=omega) only [Zg,Xe,go_sem,seval]
     ·rintro q ⟨hq,hin⟩;refine B0 ?_;refine ZB ?_ ?_<;>intro h4
      ·have hq2:q<(nth p.routes k).visits.length:=Za
       refine Z6 (X8 ?_);refine gF ?_ ?_<;>intro h5<;>simp (disch:=omega) only [Sh.out h5,go_sem,seval,↓reduceIte]
       ·grind [Fb]
       ·refine ZB ?_ ?_<;>intro h6
        ·grind [Fb]
        ·exact ⟨q+1,⟨Za,Zm.2 ⟨hin,by simp [Fb];omega⟩⟩,Za,wk⟩
      ·have hql:q=(nth p.routes k).visits.length:=Za
       have hgood:QO x (nth p.routes k)=false:=by
        rw [QO,Bool.or_eq_false_iff];refine ⟨by simp [h2,h3],?_⟩;rw [VU];intro v hm;obtain ⟨j,hj,rfl⟩:=Z4.1 hm
        grind [Zj]
       exact ⟨k+1,⟨Za,Zm.2 ⟨hno,hgood⟩⟩,Za,wk⟩
  ·have hkl:k=p.routes.length:=Za
   subst hkl;refine Zi [2,3] (fun i:Nat=> [(7,.p (.int .i64 i))]) (fun _=> [Zg x,Xe p]) (fun i=>i<=x.orders.length/\ ∀j,j<i->nW p.routes (j:Nat) p.routes.length<=1) (fun i=>x.orders.length-i) 0 Zb (Weak.mk ?_) ?_
   ·simp (disch:=omega) only [Zg,Xe,go_sem,seval]
   ·rintro i ⟨hi,hone⟩;refine B0 ?_;refine cD ?_ ?_<;>intro h2<;>simp (disch:=omega) only [Sh.out h2,go_sem,seval,↓reduceIte]
    ·have hi2:i<x.orders.length:=Za
     refine Zi [2,3,7] (fun k:Nat=> [(8,.p (.int .i64 (nW p.routes (i:Int) k))),(9,.p (.int .i64 k))]) (fun _=> [Zg x,Xe p]) (fun k=>k<=p.routes.length) (fun k=>p.routes.length-k) 0 Zb (Weak.mk ?_) ?_
     ·simp (disch:=omega) only [Zg,Xe,nW,go_sem,seval]
     ·intro k hk;have hnl:=tF (rs:=p.routes) (o:=(i:Int)) k;refine B0 ?_;refine cD ?_ ?_<;>intro h3<;>simp (disch:=omega) only [Sh.out h3,go_sem,seval,↓reduceIte]
      ·have hk2:k<p.routes.length:=Za
       have hty:=(QP (hno k hk2)).1;have ck:=GO ⟨p.routes_c&&decide ((k:Int)+1=(p.routes.length:Int)),[nth p.routes k],true,[]⟩ (i:Int) Zb (fun r hr=>by grind [Zn]);rw [ZgY hk2]
       by_cases c:hasO (nth p.routes k).visits (i:Int)=true
       ·rw [show Jl [nth p.routes k] (i:Int)=(nth p.routes k).typ from by rw [Jl,if_pos c]] at ck
        have hs:nW p.routes (i:Int) (k+1)=nW p.routes (i:Int) k+1:=by rw [nW,if_pos c]
        refine (ck).use (X8 ?_);refine ZB ?_ ?_<;>intro h5
        ·exact ⟨k+1,Za,Za,Weak.mk (by simp (disch:=omega) only [hs,go_sem,seval])⟩
        ·omega
       ·rw [show Jl [nth p.routes k] (i:Int)= -1 from by simp_all [Jl]] at ck
        have hs:nW p.routes (i:Int) (k+1)=nW p.routes (i:Int) k:=by simp_all [nW]
        refine (ck).use (X8 ?_);exact ⟨k+1,Za,Za,Weak.mk (by simp (disch:=omega) only [hs,go_sem,seval])⟩
      ·have hkl:k=p.routes.length:=Za
       subst hkl;refine ZB ?_ ?_<;>intro h4
       ·rw [dS hno (o:=i) Za]
       ·exact ⟨i+1,⟨Za,Zm.2 ⟨hone,Za⟩⟩,Za,wk⟩
    ·have hil:i=x.orders.length:=Za
     simp_all [R8]
theorem SZ {f:Nat->Int} {n:Nat} :Y8 f (n+1)=Y8 f n++ [f n]:=by simp [Y8,VT]
theorem Oa (x:Inst) (p:Pln) (hn:x.orders.length<=1048576) (ht:x.types.length<=1048576) (hr:p.routes.length<=1048576) (hv: ∀r∈p.routes,r.visits.length<=1048576) :
  ACalls Tryz.prog 81 [.p (Zv x),.p (Wk p)] [] fun y H'=>y=Bm x p/\H'= []:=by
 have cw:=Ol x p hn ht hr hv;have ck:=fun o=>GO p o hr hv;refine Ze [5] Tryz.func81 rfl ZhV ?_;simp (disch:=omega) only [Tryz.f81,go_sem,seval];refine (cw).use (X8 ?_)
 by_cases h0:Ys x p=0
 ·rw [Bm,if_pos h0,h0];refine X8 ?_;refine Zp (Weak.ofNil 7 1 (by simp (disch:=omega) only [go_sem,seval]) Zb (Weak.refl _ _ _)) ?_;refine Zf [9] _ _ _ _ (X8 ?_);have hf:=dX h0;refine ZI [9] [2,3] (fun q:Nat×List Int=> [(7,.sl 2 0 q.2.length q.2.length),(8,.p (.int .i64 q.1))]) (fun q=> [Zg x,Xe p,.elems 1 (q.2.map eI)]) (fun q=>q.1<=x.orders.length/\q.2=Y8 (fun i=>Jl p.routes (i:Int)) q.1) (fun q=>x.orders.length-q.1) (0,[]) ⟨Zb,by simp [Y8]⟩ (Weak.mk ?_) ?_
  ·simp (disch:=omega) only [Zg,Xe,go_sem,seval]
  ·rintro ⟨k,m⟩ ⟨hk,hm⟩;simp only at hk hm
   have hml:m.length=k:=by rw [hm];exact ES
   refine B0 ?_;refine cD ?_ ?_<;>intro h<;>simp (disch:=omega) only [Sh.out h,go_sem,seval,↓reduceIte]
   ·have hk2:k<x.orders.length:=Za
    refine (ck (k:Int)).use (X8 ?_);exact ⟨(k+1,m++ [Jl p.routes (k:Int)]),⟨Za,by grind [SZ]⟩,Za,wk⟩
   ·have hkl:k=x.orders.length:=Za
    subst hkl;rw [hf] at hm;subst hm;refine Zp (Weak.fz (o:=2) (by rfl)) (Zf [] _ _ _ _ (V4 ?_));exact we
 ·rw [Bm,if_neg h0];have hE: ¬(Ys x p=0):=h0;refine cD ?_ ?_<;>intro h1<;>simp (disch:=omega) only [Sh.out h1,go_sem,seval]
  ·exact we
  ·omega
def HL (a:List Int) (i:Nat):Nat->Bool
 | 0=>true
 | k+1=>HL a i k&&decide (nth a k≠nth a i)
theorem LB {a:List Int} {i:Nat} : ∀k,HL a i k=true↔ ∀t,t<k->nth a t≠nth a i
 | 0=>by simp [HL]
 | k+1=>by
  rw [HL,ZG,LB k,Zr]
  grind
def R0 (a:List Int) (i:Nat):Bool:=HL a i i
theorem Ej {a:List Int} {i:Nat} :R0 a i=true↔ ∀t,t<i->nth a t≠nth a i:=LB i
def B1 (l:List Col) (a:List Int) (T:Int) (i:Nat):Bool:=decide (0<=nth a i)&&(decide ((nth l (nth a i).toNat).typ=T)&&R0 a i)
def usdI (l:List Col) (a:List Int) (T:Int):Nat->Nat
 | 0=>0
 | i+1=>usdI l a T i+(if B1 l a T i=true then 1 else 0)
def UB (S:Nat) (a:List Int) (j:Int):List Int:=(List.range a.length).map fun i=>if S.testBit i=true then j else nth a i
theorem QR {S:Nat} {a:List Int} {j:Int} :(UB S a j).length=a.length:=by simp [UB]
theorem XL {S:Nat} {a:List Int} {j:Int} {i:Nat} (h:i<a.length):nth (UB S a j) i=if S.testBit i=true then j else nth a i:=by
 grind [UB,Zj]
def oI (S:Nat) (a:List Int) (k:Nat):Bool:=(List.range a.length).all fun i=> !S.testBit i||(decide (nth a i<0)&&decide (k<=i))
theorem K6 {S:Nat} {a:List Int} {k:Nat} :oI S a k=true↔ ∀i,i<a.length->S.testBit i=true->nth a i<0/\k<=i:=by
 simp only [oI,Zw,Xc,Ur,YH,ZG,Zr]
 grind
def Db (x:Inst) (l:List Col) (a:List Int) (j k:Nat):Bool :=
 (nth l j).set.toNat.testBit k&&(decide ((usdI l a (nth l j).typ a.length:Int)<(nth x.types (nth l j).typ.toNat).count)&&oI (nth l j).set.toNat a k)
def skR (x:Inst) (k:Nat):Int:=(Wn (unsF x k).1).1
def B8 (x:Inst) (l:List Col):Nat->List Int->Int->List (List Int×Int)
 | 0,a,p=> [(a,p)]
 | d+1,a,p=>if (nth x.orders (x.orders.length-(d+1))).off=true\/0<=nth a (x.orders.length-(d+1)) then B8 x l d a p else
  ((List.range l.length).flatMap fun j=>if Db x l a j (x.orders.length-(d+1))=true then B8 x l d (UB (nth l j).set.toNat a j) (p+(nth l j).price) else []) ++
   (if 0<=(nth x.orders (x.orders.length-(d+1))).penalty then B8 x l d a (p+skR x (x.orders.length-(d+1))) else [])
theorem Hq (n:Nat) (hn:n<=60):PC 111 [.p (.int .i64 n)] (.int .i64 (pw n:Nat)):=by
 refine Zc Tryz.func111 rfl xJ ?_;simp (disch:=omega) only [Tryz.f111,go_sem,seval];refine Zi [0] (fun k:Nat=> [(3,.p (.int .i64 (pw k:Nat))),(4,.p (.int .i64 k))]) (fun _=> []) (fun k=>k<=n) (fun k=>n-k) 0 Zb (Weak.mk ?_) ?_
 ·refine X8 ?_;simp [pw]
 ·intro k hk;have h62:pw k<=pw 62:=QN Za;have h63:k<n->pw (k+1)<=pw 62:=fun h=>QN Za;have h64:=BL k;have h65:=GL;refine X8 ?_;refine cD ?_ ?_<;>intro h<;>simp (disch:=omega) only [Sh.out h,go_sem,seval,↓reduceIte]
  ·exact ⟨k+1,Za,Za,Weak.mk (by refine X8 ?_;simp [h64])⟩
  grind
theorem HP (s:Nat) (i:Nat) (hs:s<9223372036854775808) (hi:i<=64):PC 214 [.p (.int .i64 s),.p (.int .i64 i)] (.bool (s.testBit i)):=by
 refine Zc Tryz.func214 rfl zU ?_;simp (disch:=omega) only [Tryz.f214,go_sem,seval];refine Zi [1] (fun k:Nat=> [(0,.p (.int .i64 (hv s k:Nat))),(5,.p (.int .i64 k))]) (fun _=> []) (fun k=>k<=i) (fun k=>i-k) 0 Zb (Weak.mk ?_) ?_
 ·simp (disch:=omega) only [Pi,go_sem,seval]
 ·intro k hk;have e1:=Ph s k;have h1:=sY s k;refine X8 ?_;refine ZB ?_ ?_<;>intro h
  ·exact ⟨k+1,Za,Za,Weak.mk (by refine X8 ?_;grind)⟩
  ·have:k=i:=Za
   subst this;rw [NH]
   have:((hv s k:Nat):Int)%2=1↔hv s k%2=1:=Za
   grind
structure Chc where
 found:Bool
 places:List Int
 price:Int
 deriving Inhabited
def Vd (x:Inst) (lc:Bool) (l:List Col) (b:Chc):AM.Obj:= .cells [.p (.list x.net.places_c (x.net.places.map eS)),.p (.list x.net.arcs_c (x.net.arcs.map Wj)),.p (.list x.types_c (x.types.map Y5)),.p (.list x.orders_c (x.orders.map eOrd)),.p (.list x.apart_c (x.apart.map eP)),.p (.list x.before_c (x.before.map eP)),.p (.list lc (l.map Xz)),.p (.bool b.found),.p (.list (!b.found) (b.places.map eI)),.p (.int .i64 b.price)]
theorem P2 {l:List Col} {a:List Int} {T:Int} : ∀m,usdI l a T m<=m
 | 0=>ZM _
 | m+1=>by
  have:=P2 (l:=l) (a:=a) (T:=T) m;rw [usdI];split<;>omega
theorem ZbG {P Q:Prop} (h:Q) (e:Q->P:=by intro h;simp (disch:=omega) only [Vd,go_sem,seval];exact h):P:=e h
theorem jF (x:Inst) (lc:Bool) (l:List Col) (b:Chc) (a:List Int) (T:Int) (ha:a.length<=1048576) (hr: ∀i,i<a.length-> -1<=nth a i/\nth a i<l.length) (hl:l.length<=1048576) :
  ACalls Tryz.prog 216 [.ptr 0 0,.p (.list false (a.map eI)),.p (.int .i64 T)] [Vd x lc l b] fun y H'=>y= .p (.int .i64 (usdI l a T a.length:Nat))/\H'= [Vd x lc l b]:=by
 refine Ze [] Tryz.func216 rfl zW ?_;simp (disch:=omega) only [Tryz.f216,Vd,go_sem,seval];refine Zi [0,1,2] (fun k:Nat=> [(7,.p (.int .i64 (usdI l a T k:Nat))),(8,.p (.int .i64 k))]) (fun _=> [Vd x lc l b]) (fun k=>k<=a.length) (fun k=>a.length-k) 0 Zb (Weak.mk ?_) ?_
 ·have h00:((usdI l a T 0:Nat):Int)=0:=rfl;simp (disch:=omega) only [h00,Vd,go_sem,seval,↓reduceIte]
 ·intro k hk;have hu:=P2 (l:=l) (a:=a) (T:=T) k;refine ZbG ?_;refine cD ?_ ?_<;>intro h1<;>simp (disch:=omega) only [Sh.out h1,go_sem,seval,↓reduceIte]
  ·have hk2:k<a.length:=Za
   have hrk:=hr k hk2;refine Z6 (X8 ?_);refine gF ?_ ?_<;>intro h2<;>simp (disch:=omega) only [Sh.out h2,go_sem,seval,↓reduceIte]
   ·have e:usdI l a T (k+1)=usdI l a T k:=by grind [usdI,B1]
    exact ⟨k+1,Za,Za,Weak.mk (by simp (disch:=omega) only [e,go_sem,seval])⟩
   ·refine cD ?_ ?_<;>intro h3<;>simp (disch:=omega) only [Sh.out h3,go_sem,seval,↓reduceIte]
    ·have e:usdI l a T (k+1)=usdI l a T k:=by grind [usdI,B1]
     exact ⟨k+1,Za,Za,Weak.mk (by simp (disch:=omega) only [e,go_sem,seval])⟩
    ·have h3':(nth l (nth a k).toNat).typ=T:=Xl.1 h3;refine Zi [0,1,2,7,8] (fun q:Nat=> [(9,.p (.bool (HL a k q))),(10,.p (.int .i64 q))]) (fun _=> [Vd x lc l b]) (fun q=>q<=k) (fun q=>k-q) 0 Zb (Weak.mk ?_) ?_
     ·simp (disch:=omega) only [Vd,HL,go_sem,seval,↓reduceIte]
     ·intro q hq;refine ZbG ?_;refine cD ?_ ?_<;>intro h4<;>simp (disch:=omega) only [Sh.out h4,go_sem,seval,↓reduceIte]
      ·refine Z3 12 mixed Zd Zd (X8 ?_);refine gT ?_ ?_<;>intro h5<;>simp (disch:=omega) only [Sh.out h5,go_sem,seval,↓reduceIte]
       ·exact ⟨q+1,Za,Za,Weak.mk (by simp (disch:=omega) only [HL,h5,Wz,go_sem,seval])⟩
       ·exact ⟨q+1,Za,Za,Weak.mk (by simp (disch:=omega) only [HL,h5,Vs,go_sem,seval])⟩
      ·have hqk:q=k:=Za
       subst hqk;refine cD ?_ ?_<;>intro h5<;>simp (disch:=omega) only [Sh.out h5,go_sem,seval,↓reduceIte]
       ·have e:usdI l a T (q+1)=usdI l a T q+1:=by grind [usdI,B1,R0]
        exact ⟨q+1,Za,Za,Weak.mk (by simp (disch:=omega) only [e,go_sem,seval])⟩
       ·have e:usdI l a T (q+1)=usdI l a T q:=by grind [usdI,B1,R0]
        exact ⟨q+1,Za,Za,Weak.mk (by simp (disch:=omega) only [e,go_sem,seval])⟩
  ·have hka:k=a.length:=Za
   subst hka;exact we
def Ko (S:Nat) (a:List Int) (j:Int) (k:Nat):List Int:=(List.range a.length).map fun t=>if t<k/\S.testBit t=true then j else nth a t
theorem VP {S:Nat} {a:List Int} {j:Int} {k:Nat} :(Ko S a j k).length=a.length:=by simp [Ko]
theorem Kp {S:Nat} {a:List Int} {j:Int} {k i:Nat} (h:i<a.length):nth (Ko S a j k) i=if i<k/\S.testBit i=true then j else nth a i:=by
 grind [Ko,Zj]
theorem Tc {S:Nat} {a:List Int} {j:Int} :Ko S a j 0=a :=
 Ut VP fun i hi=>by simp_all [VP,Kp]
theorem iS {S:Nat} {a:List Int} {j:Int} :Ko S a j a.length=UB S a j :=
 Ut (by rw [VP,QR]) fun i hi=>by grind [VP,Kp,XL]
theorem iT {S:Nat} {a:List Int} {j:Int} {k:Nat} (hk:k<a.length) (hb:S.testBit k=true):(Ko S a j k).set k j=Ko S a j (k+1) :=
 Ut (by simp [VP]) fun i hi=>by
  rw [KY,VP] at hi;rw [BA (by rw [VP];exact hk),Kp hi,Kp hi]
  grind
theorem pT {S:Nat} {a:List Int} {j:Int} {k:Nat} (hb:S.testBit k=false):Ko S a j (k+1)=Ko S a j k:=by
 refine Yw fun i _=> ?_
 grind
theorem jM (x:Inst) (lc:Bool) (l:List Col) (b:Chc) (a:List Int) (j k:Nat) (ha:0<a.length/\a.length<=60) (hl:l.length<=1048576) (hj:j<l.length) (S:Nat) (hS:(nth l j).set=S) (hS2:S<9223372036854775808) :
  ACalls Tryz.prog 217 [.ptr 0 0,.p (.list false (a.map eI)),.p (.int .i64 j),.p (.int .i64 k)] [Vd x lc l b] fun y H'=>y=(if oI S a k=true then .tup [.p (.list false ((UB S a j).map eI)),.p (.bool true)] else .tup [.p (.list true []),.p (.bool false)])/\H'= [Vd x lc l b]:=by
 refine Ze [10] Tryz.func217 rfl zX ?_;simp (disch:=omega) only [Tryz.f217,Vd,go_sem,seval];rw [if_pos ⟨Za,Za⟩];refine X8 ?_;refine ZI [10] [0,2,3,10] (fun q:Nat=> [(11,.p (.int .i64 q))]) (fun q=> [Vd x lc l b,.elems 1 ((Ko S a j q).map eI)]) (fun q=>q<=a.length/\ ∀t,t<q->S.testBit t=true->nth a t<0/\k<=t) (fun q=>a.length-q) 0 ⟨Zb,fun t ht=>Za⟩ (Weak.mk ?_) ?_
 ·simp (disch:=omega) only [Tc,Vd,go_sem,seval,↓reduceIte]
 ·rintro q ⟨hq,hok⟩;have hul:(Ko S a j q).length=a.length:=VP;refine ZbG ?_;rw [if_pos hul];refine X8 ?_;refine cD ?_ ?_<;>intro h1<;>simp (disch:=omega) only [Sh.out h1,go_sem,seval,↓reduceIte]
  ·have hq2:q<a.length:=Za
   rw [hS];refine (HP S q hS2 Za).use (X8 ?_);have hn:=Kp (S:=S) (j:=(j:Int)) (k:=q) hq2;rw [if_neg Za] at hn;refine cD ?_ ?_<;>intro h2<;>simp (disch:=omega) only [Sh.out h2,go_sem,seval,↓reduceIte]
   ·have hq3:q<(Ko S a j q).length:=Za
    simp (disch:=first | omega | (simp only [Zs,ZH,ZQ,Xp,ZA,Xg]<;>omega)) only [WK hq3,hn,hq2,hul,eq_self,go_sem,seval,↓reduceIte];refine gF ?_ ?_<;>intro h3<;>simp (disch:=omega) only [Sh.out h3,go_sem,seval,↓reduceIte]
    ·have hno:oI S a k=false:=by
      grind [K6]
     exact ⟨.tup [.p (.list true []),.p (.bool false)],_,wk,by rw [hno];rfl,rfl⟩
    ·refine cD ?_ ?_<;>intro h4<;>simp (disch:=omega) only [Sh.out h4,go_sem,seval]
     ·have hno:oI S a k=false:=by
       grind [K6]
      exact ⟨.tup [.p (.list true []),.p (.bool false)],_,wk,by rw [hno];rfl,rfl⟩
     ·have hset:((Ko S a j q).map eI).set q (.int .i64 j)=(Ko S a j (q+1)).map eI:=by rw [<- iT hq2 h2,W6];rfl
      simp (disch:=first | omega | (simp only [Zs,ZH,ZQ,Xp,ZA,Xg]<;>omega)) only [hset,hn,eq_self,go_sem,seval,↓reduceIte]
      exact ⟨q+1,⟨Za,fun t ht hb=>by
       grind⟩,Za,wk⟩
   ·have hu:Ko S a j (q+1)=Ko S a j q:=pT h2
    exact ⟨q+1,⟨Za,fun t ht hb=>by
     grind⟩,Za,Weak.mk (by simp (disch:=omega) only [hu,go_sem,seval])⟩
  ·have hqa:q=a.length:=Za
   subst hqa;have hyes:oI S a k=true:=K6.2 hok;rw [hyes,if_pos rfl,iS];have hal:(UB S a j).length=a.length:=QR;refine Zp (Weak.fz (o:=1) (by rfl)) ?_;refine Zf [] _ _ _ _ ?_;simp (disch:=omega) only [Zu,Zk,X7,Z9,hal,eq_self,go_sem,seval];exact ⟨.tup [.p (.list false ((UB S a j).map eI)),.p (.bool true)],_,wk,rfl,rfl⟩
def JJ (l:List Col):List Int->List Int->Option Bool
 | x::a,y::b=>if x=y then JJ l a b else if x<0\/y<0 then some (decide (0<=x)) else if (nth l x.toNat).typ≠(nth l y.toNat).typ then some (decide ((nth l x.toNat).typ<(nth l y.toNat).typ)) else
   if (nth l x.toNat).set≠(nth l y.toNat).set then some (decide ((nth l x.toNat).set<(nth l y.toNat).set)) else JJ l a b
 | _,_=>none
def Da : List Int->List Int->Bool
 | x::a,y::b=>if x=y then Da a b else decide (x<y)
 | _,_=>false
def D1 (l:List Col) (a b:List Int):Bool:=match JJ l a b with
 | some r=>r
 | none=>Da a b
theorem I3 {l:List Col} :JJ l [] []=none:=by simp [JJ]
theorem aF : Da [] []=false:=by simp [Da]
theorem Qu {l:List Col} {a b:List Int} {r:Bool} (h:JJ l a b=some r):D1 l a b=r:=by rw [D1,h]
theorem F0 {l:List Col} {a b:List Int} (h:JJ l a b=none):D1 l a b=Da a b:=by rw [D1,h]
theorem Nh (x:Inst) (lc:Bool) (l:List Col) (b:Chc) (a d:List Int) (dc:Bool) (ha:a.length<=1048576) (hd:d.length=a.length) (hr: ∀i,i<a.length-> -1<=nth a i/\nth a i<l.length) (hq: ∀i,i<a.length-> -1<=nth d i/\nth d i<l.length) (hl:l.length<=1048576) :
  ACalls Tryz.prog 215 [.ptr 0 0,.p (.list false (a.map eI)),.p (.list dc (d.map eI))] [Vd x lc l b] fun y H'=>y= .p (.bool (D1 l a d))/\H'= [Vd x lc l b]:=by
 obtain ⟨B,hB⟩: ∃B,B=D1 l a d:=⟨_,rfl⟩;rw [<- hB];refine Ze [] Tryz.func215 rfl zV ?_;simp (disch:=omega) only [Tryz.f215,Vd,go_sem,seval];refine Zi [0,1,2] (fun k:Nat=> [(7,.p (.int .i64 k))]) (fun _=> [Vd x lc l b]) (fun k=>k<=a.length/\JJ l (a.drop k) (d.drop k)=JJ l a d) (fun k=>a.length-k) 0 Zb (Weak.mk ?_) ?_
 ·simp (disch:=omega) only [Vd,go_sem,seval,↓reduceIte]
 ·rintro k ⟨hk,hb⟩;refine ZbG ?_;refine cD ?_ ?_<;>intro h1<;>simp (disch:=omega) only [Sh.out h1,go_sem,seval,↓reduceIte]
  ·have hk2:k<a.length:=Za
   have hk3:k<d.length:=Za
   have hrk:=hr k hk2;have hqk:=hq k hk2;rw [CV hk2,CV hk3,JJ] at hb;refine Z6 (X8 ?_);refine cD ?_ ?_<;>intro h2<;>simp (disch:=omega) only [Sh.out h2,go_sem,seval,↓reduceIte]
   ·rw [if_pos h2] at hb;exact ⟨k+1,⟨Za,hb⟩,Za,wk⟩
   ·rw [if_neg h2] at hb;refine gF ?_ ?_<;>intro h3<;>simp (disch:=omega) only [Sh.out h3,go_sem,seval,↓reduceIte]
    ·rw [if_pos (.inl h3)] at hb;have e:=Qu hb.symm;exact ⟨.p (.bool B),_,Weak.mk (by simp (disch:=omega) only [hB,e,go_sem,seval]),rfl,rfl⟩
    ·refine cD ?_ ?_<;>intro h4<;>simp (disch:=omega) only [Sh.out h4,go_sem,seval,↓reduceIte]
     ·rw [if_pos (.inr h4)] at hb;have e:=Qu hb.symm;exact ⟨.p (.bool B),_,Weak.mk (by simp (disch:=omega) only [hB,e,go_sem,seval]),rfl,rfl⟩
     ·rw [if_neg Za] at hb;refine Xo [10] 11 mixed Zd Zd Zd Zb (X8 ?_);refine ZV 10 _ _ Zd (by refine X8 ?_;exact ⟨rfl,rfl⟩) (Yo ?_);refine X8 ?_;refine Xo [10] 11 mixed Zd Zd Zd Zb (X8 ?_);refine ZV 10 _ _ Zd (by refine X8 ?_;exact ⟨rfl,rfl⟩) (Yo ?_);refine X8 ?_;refine cD ?_ ?_<;>intro h5<;>simp (disch:=omega) only [Sh.out h5,go_sem,seval,↓reduceIte]
      ·rw [if_pos h5] at hb;have e:=Qu hb.symm;exact ⟨.p (.bool B),_,Weak.mk (by simp (disch:=omega) only [hB,e,go_sem,seval]),rfl,rfl⟩
      ·rw [if_neg h5] at hb;refine cD ?_ ?_<;>intro h6<;>simp (disch:=omega) only [Sh.out h6,go_sem,seval,↓reduceIte]
       ·rw [if_pos h6] at hb;have e:=Qu hb.symm;exact ⟨.p (.bool B),_,Weak.mk (by simp (disch:=omega) only [hB,e,go_sem,seval]),rfl,rfl⟩
       ·rw [if_neg h6] at hb;exact ⟨k+1,⟨Za,hb⟩,Za,wk⟩
  ·have hka:k=a.length:=Za
   subst hka;rw [VW,<- hd,VW,I3] at hb;have e:=F0 hb.symm;refine Zi [1,2] (fun k:Nat=> [(10,.p (.int .i64 k))]) (fun _=> [Vd x lc l b]) (fun k=>k<=a.length/\Da (a.drop k) (d.drop k)=Da a d) (fun k=>a.length-k) 0 Zb (Weak.mk ?_) ?_
   ·simp (disch:=omega) only [Vd,go_sem,seval]
   ·rintro k ⟨hk,hb⟩;refine ZbG ?_;refine cD ?_ ?_<;>intro h2<;>simp (disch:=omega) only [Sh.out h2,go_sem,seval,↓reduceIte]
    ·have hk2:k<a.length:=Za
     have hk3:k<d.length:=Za
     rw [CV hk2,CV hk3,Da] at hb;refine Z6 (X8 ?_);refine ZB ?_ ?_<;>intro h3
     ·rw [if_neg h3] at hb;refine Z3 9 mixed Zd Zd (X8 ?_);exact ⟨.p (.bool B),_,Weak.mk (by simp (disch:=omega) only [hB,e,<- hb,go_sem,seval]),rfl,rfl⟩
     ·rw [if_pos (Xl.1 h3)] at hb;exact ⟨k+1,⟨Za,hb⟩,Za,wk⟩
    ·have hka:k=a.length:=Za
     subst hka;rw [VW,<- hd,VW,aF] at hb;exact ⟨.p (.bool B),_,Weak.mk (by simp (disch:=omega) only [hB,e,<- hb,go_sem,seval]),rfl,rfl⟩
def Vz (l:List Col) (b:Chc) (q:List Int×Int):Chc:=if b.found=false\/q.2<b.price\/(q.2=b.price/\D1 l q.1 b.places=true) then ⟨true,q.1,q.2⟩ else b
def RngA (x:Inst) (l:List Col) (a:List Int):Prop:=a.length=x.orders.length/\ ∀i,i<x.orders.length-> -1<=nth a i/\nth a i<l.length
def ChB (x:Inst) (l:List Col) (b:Chc):Prop:=b.found=true->RngA x l b.places
theorem E3 {x:Inst} {l:List Col} {a:List Int} {S j:Nat} (h:RngA x l a) (hj:j<l.length):RngA x l (UB S a j) :=
 ⟨by rw [QR];exact h.1,fun i hi=>by
  rw [XL (by rw [h.1];exact hi)]
  split
  ·omega
  ·exact h.2 i hi⟩
theorem K3 {x:Inst} {l:List Col} : ∀(d:Nat) {a:List Int} {p:Int},RngA x l a-> ∀q∈B8 x l d a p,RngA x l q.1
 | 0,a,p,h,q,hq=>by
  simp_all [B8]
 | d+1,a,p,h,q,hq=>by
  rw [B8] at hq
  split at hq
  ·exact K3 d h q hq
  ·rw [Xd,Uq] at hq;rcases hq with ⟨j,hj,hq⟩ | hq
   ·split at hq
    ·exact K3 d (E3 h (Xc.1 hj)) q hq
    ·simp at hq
   ·split at hq
    ·exact K3 d h q hq
    ·simp at hq
theorem Ix {x:Inst} {l:List Col} : ∀ {L:List (List Int×Int)} {b:Chc},ChB x l b->(∀q∈L,RngA x l q.1)->ChB x l (L.foldl (Vz l) b)
 | [],_,h,_=>h
 | q::L,b,h,hL=>by
  rw [Qc];refine Ix (L:=L) ?_ fun q hq=>hL q (Yv _ hq);unfold Vz
  split
  ·exact fun _=>hL q Zb
  ·exact h
structure ColsR (x:Inst) (l:List Col):Prop where
 n4:x.orders.length<=4
 t6:x.types.length<=6
 len:l.length<=1048576
 col: ∀c∈l,(0<=c.typ/\c.typ<x.types.length)/\(0<=c.price/\c.price<=18014398509481984)/\ ∃S:Nat,c.set=S/\S<16
 sk: ∀k,k<x.orders.length->(nth x.orders k).off=false->0<=(nth x.orders k).penalty->0<=skR x k/\skR x k<=18014398509481984
 us: ∀i,scoR 1152921504606846976 (unsF x i).1
theorem mW {P:Program} {f:FuncId} {az:List V} {z:PV} {O:AM.Obj} {L:List AM.Obj} {B:V->Prop} {t} (h:ACalls P f az [O] fun y H'=>y= .p z/\H'= [O]) (k:B (.p z)) (ha:Xf 1 az=true:=by rfl) (hf:refH 1 [O]=true:=by rfl) :
  RT (fun y=>ACalls P f az (O::L) (Zy (Zy (fun x H'=>x=y/\H'=O::L) ⟨⟩) ⟨⟩)) (Zy B t) :=
 ⟨.p z,h.useP (L:=L) rfl ⟨rfl,rfl⟩ ha hf,k⟩
theorem ZjU {P:Program} {f:FuncId} {az:List V} {v:V} {O:AM.Obj} {L:List AM.Obj} {K:V->List AM.Obj->Prop} (h:ACalls P f az [O] fun y H'=>y=v/\H'= [O]) (k:K v (O::L)) (ha:Xf 1 az=true:=by rfl) (hf:refH 1 [O]=true:=by rfl):ACalls P f az (O::L) K :=
 h.useP (L:=L) rfl k ha hf
def kM (x:Inst) (lc:Bool) (l:List Col) (d:Nat):Prop:= ∀(a:List Int) (p:Int) (b:Chc),d<=x.orders.length->RngA x l a->0<=p->p+(d:Int)*18014398509481984<=90071992547409920->ChB x l b ->
  ACalls Tryz.prog 163 [.ptr 0 0,.p (.list false (a.map eI)),.p (.int .i64 ((x.orders.length-d:Nat):Int)),.p (.int .i64 p)] [Vd x lc l b] fun y H'=>y= .tup []/\H'= [Vd x lc l ((B8 x l d a p).foldl (Vz l) b)]
theorem qG (x:Inst) (lc:Bool) (l:List Col) (hC:ColsR x l):kM x lc l 0:=by
 intro a p b hd ha hp0 hp1 hb;have h4:=hC.n4;have hl:=hC.len;obtain ⟨R,hR⟩: ∃R,R=Vd x lc l ((B8 x l 0 a p).foldl (Vz l) b):=⟨_,rfl⟩;rw [<- hR,Nat.sub_zero];simp only [B8,Qc,Qh] at hR;refine Ze [] Tryz.func163 rfl dL ?_;obtain ⟨f,bp,bc⟩:=b
 cases f with
 | false =>
  rw [Vz,if_pos (.inl rfl)] at hR;simp (disch:=omega) only [Tryz.f163,Vd,Jt,go_sem,seval];exact ⟨_,[R],Weak.mk (by simp (disch:=omega) only [hR,Vd,X1,go_sem,seval]),rfl,rfl⟩
 | true =>
  simp (disch:=omega) only [Tryz.f163,Vd,X1,go_sem,seval];refine gF ?_ ?_<;>intro h1<;>simp (disch:=omega) only [Sh.out h1,go_sem,seval,↓reduceIte]
  ·rw [Vz,if_pos (.inr (.inl h1))] at hR;exact ⟨_,[R],Weak.mk (by simp (disch:=omega) only [hR,Vd,X1,go_sem,seval]),rfl,rfl⟩
  ·refine gT ?_ ?_<;>intro h2<;>simp (disch:=omega) only [Sh.out h2,go_sem,seval,↓reduceIte]
   ·have hq:=hb rfl;refine ACalls.mono (Nh x lc l ⟨true,bp,bc⟩ a bp (!true) (by rw [ha.1];omega) (by rw [ha.1];exact hq.1) (fun i hi=>ha.2 i (by rw [<- ha.1];exact hi)) (fun i hi=>hq.2 i (by rw [<- ha.1];exact hi)) hl) ?_;rintro y H' ⟨rfl,rfl⟩;simp (disch:=omega) only [Vd,X1,go_sem,seval];refine cD ?_ ?_<;>intro h3<;>simp (disch:=omega) only [Sh.out h3,go_sem,seval,↓reduceIte]
    ·rw [Vz,if_pos (.inr (.inr ⟨h2,h3⟩))] at hR;exact ⟨_,[R],Weak.mk (by simp (disch:=omega) only [hR,Vd,X1,go_sem,seval]),rfl,rfl⟩
    ·rw [Vz,if_neg (fun h=>h.elim (fun h=>by cases h) fun h=>h.elim (fun h=>h1 h) fun h=>by grind)] at hR;exact ⟨_,[R],Weak.mk (by simp (disch:=omega) only [hR,Vd,X1,go_sem,seval]),rfl,rfl⟩
   ·rw [Vz,if_neg (fun h=>h.elim (fun h=>by cases h) fun h=>h.elim (fun h=>h1 h) fun h=>h2 h.1)] at hR;exact ⟨_,[R],Weak.mk (by simp (disch:=omega) only [hR,Vd,X1,go_sem,seval]),rfl,rfl⟩
theorem qH (x:Inst) (lc:Bool) (l:List Col) (hC:ColsR x l) (d:Nat) (ih:kM x lc l d):kM x lc l (d+1):=by
 intro a p b hd ha hp0 hp1 hb;have h4:=hC.n4;have h6:=hC.t6;have hl:=hC.len;obtain ⟨k,hk⟩: ∃k,k=x.orders.length-(d+1):=⟨_,rfl⟩
 have hk1:k<x.orders.length:=Za
 have hkd:x.orders.length-d=k+1:=Za
 obtain ⟨R,hR⟩: ∃R,R=Vd x lc l ((B8 x l (d+1) a p).foldl (Vz l) b):=⟨_,rfl⟩;rw [<- hR,<- hk];rw [B8,<- hk] at hR;have hla:a.length=x.orders.length:=ha.1
 have hka:k<a.length:=Za
 refine Ze [] Tryz.func163 rfl dL ?_;simp (disch:=omega) only [Tryz.f163,Vd,go_sem,seval]
 have nxt: ∀(a':List Int) (p':Int) (b':Chc) (L:List AM.Obj) (K:V->List AM.Obj->Prop),RngA x l a'->0<=p'->p'+(d:Int)*18014398509481984<=90071992547409920->ChB x l b'->K (.tup []) (Vd x lc l ((B8 x l d a' p').foldl (Vz l) b')::L) ->
   ACalls Tryz.prog 163 [.ptr 0 0,.p (.list false (a'.map eI)),.p (.int .i64 ((k:Int)+1)),.p (.int .i64 p')] (Vd x lc l b'::L) K:=fun a' p' b' L K h1 h2 h3 h5 hK=>by
  have hi:=ih a' p' b' Za h1 h2 h3 h5;rw [hkd] at hi;refine ((hi.mono fun y H' hq=>(⟨hq,by grind⟩:_/\H'.length= [Vd x lc l b'].length)).front (by rfl) (by rfl) L).mono ?_
  grind
 refine cD ?_ ?_<;>intro h0<;>simp (disch:=omega) only [Sh.out h0,go_sem,seval,↓reduceIte]
 ·omega
 ·cases ho:(nth x.orders k).off with
  | true =>
   rw [if_pos (.inl ho)] at hR;refine X8 ?_;refine nxt a p b [_] _ ha hp0 Za hb (ZbG ?_);exact ⟨_,[R],Weak.mk (by simp (disch:=omega) only [hR,Vd,go_sem,seval]),rfl,rfl⟩
  | false =>
   refine X8 ?_;refine cD ?_ ?_<;>intro h1<;>simp (disch:=omega) only [Sh.out h1,go_sem,seval]
   ·rw [if_pos (.inr h1)] at hR;refine nxt a p b [_] _ ha hp0 Za hb (ZbG ?_);exact ⟨_,[R],Weak.mk (by simp (disch:=omega) only [hR,Vd,go_sem,seval]),rfl,rfl⟩
   ·rw [if_neg (by grind)] at hR;obtain ⟨G,hG⟩: ∃G:Nat->List (List Int×Int),G=fun j=>if Db x l a j k=true then B8 x l d (UB (nth l j).set.toNat a j) (p+(nth l j).price) else []:=⟨_,rfl⟩;rw [<- hG,List.foldl_append] at hR
    have hGr: ∀q:Nat,q<=l.length-> ∀e∈(List.range q).flatMap G,RngA x l e.1:=fun q hq e he=>by
     obtain ⟨j,hj,he⟩:=Uq.1 he;rw [hG] at he;simp only at he
     split at he
     ·exact K3 d (E3 ha (by grind)) e he
     ·simp at he
    have hGs: ∀q:Nat,((List.range (q+1)).flatMap G).foldl (Vz l) b=(G q).foldl (Vz l) (((List.range q).flatMap G).foldl (Vz l) b):=fun q=>by
     grind [VT]
    obtain ⟨B,hB⟩: ∃B:Nat->Chc,B=fun q=>((List.range q).flatMap G).foldl (Vz l) b:=⟨_,rfl⟩
    have hBs: ∀q,B (q+1)=(G q).foldl (Vz l) (B q):=fun q=>by grind
    have hB0:B 0=b:=by rw [hB];simp
    have hBc: ∀q,q<=l.length->ChB x l (B q):=fun q hq=>by rw [hB];exact Ix hb (hGr q hq)
    have hRB:R=Vd x lc l ((if 0<=(nth x.orders k).penalty then B8 x l d a (p+skR x k) else []).foldl (Vz l) (B l.length)):=by rw [hR,hB]
    clear hR hGs hGr hB;refine Zi [0,1,2,3,9] (fun q:Nat=> [(10,.p (.int .i64 q))]) (fun q=> [Vd x lc l (B q),Yq (nth x.orders k)]) (fun q=>q<=l.length) (fun q=>l.length-q) 0 Zb (Weak.mk ?_) ?_
    ·simp (disch:=omega) only [Vd,Yq,hB0,ho,go_sem,seval,↓reduceIte]
    ·intro q hq;simp (disch:=omega) only [Vd,Yq,ho,go_sem,seval];refine cD ?_ ?_<;>intro h2<;>simp (disch:=omega) only [Sh.out h2,go_sem,seval,↓reduceIte]
     ·have hq2:q<l.length:=Za
      obtain ⟨⟨t0,t1⟩,⟨c0,c1⟩,S,hS,hS2⟩:=hC.col _ (Zn hq2);refine Z6 (X8 ?_)
      have hST:(nth l q).set.toNat=S:=Za
      have hGq:Db x l a q k=(S.testBit k&&(decide ((usdI l a (nth l q).typ a.length:Int)<(nth x.types (nth l q).typ.toNat).count)&&oI S a k)):=by rw [Db,hST]
      have hnx: ∀c:Bool,Db x l a q k=c->B (q+1)=(if c=true then (B8 x l d (UB S a q) (p+(nth l q).price)).foldl (Vz l) (B q) else B q):=fun c hc=>by
       rw [hBs,hG];simp only [hST,hc]
       cases c<;>simp
      rw [hS];refine Zq (HP S k Za Za) (X8 ?_);refine gT ?_ ?_<;>intro h3<;>simp (disch:=omega) only [Sh.out h3,go_sem,seval,↓reduceIte]
      ·refine mW (jF x lc l (B q) a (nth l q).typ Za (fun i hi=>ha.2 i Za) hl) (X8 ?_);refine cD ?_ ?_<;>intro h4<;>simp (disch:=omega) only [Sh.out h4,go_sem,seval,↓reduceIte]
       ·have hw:=jM x lc l (B q) a q k ⟨Za,Za⟩ hl hq2 S hS Za
        cases hok:oI S a k with
        | true =>
         rw [hok,if_pos rfl] at hw;refine ZjU hw (X8 ?_);have e:=hnx true (by grind);rw [if_pos rfl] at e;refine nxt (UB S a q) (p+(nth l q).price) (B q) [_] _ (E3 ha hq2) Za Za (hBc q Za) (ZbG ?_);exact ⟨q+1,Za,Za,Weak.mk (by simp (disch:=omega) only [e,ho,go_sem,seval])⟩
        | false =>
         rw [hok,if_neg Zb] at hw;refine ZjU hw (X8 ?_);have e:=hnx false (by grind);rw [if_neg Zb] at e;exact ⟨q+1,Za,Za,Weak.mk (by simp (disch:=omega) only [e,ho,go_sem,seval])⟩
       ·have e:=hnx false (by grind);rw [if_neg Zb] at e;exact ⟨q+1,Za,Za,Weak.mk (by simp (disch:=omega) only [e,ho,go_sem,seval])⟩
      ·have e:=hnx false (by grind);rw [if_neg Zb] at e;exact ⟨q+1,Za,Za,Weak.mk (by simp (disch:=omega) only [e,ho,go_sem,seval])⟩
     ·have hql:q=l.length:=Za
      subst hql;refine cD ?_ ?_<;>intro h3<;>simp (disch:=omega) only [Sh.out h3,go_sem,seval,↓reduceIte]
      ·rw [if_pos h3] at hRB;have hsk:=hC.sk k hk1 ho h3;refine Y0 (Iw x k Za) (X8 ?_);refine Y0 (Fd (unsF x k).1 (hC.us k)) (X8 ?_);have e1:(Wn (unsF x k).1).1=skR x k:=rfl;rw [e1];refine X8 ?_;refine nxt a (p+skR x k) (B l.length) [_,_] _ ha Za Za (hBc _ (ZM _)) (ZbG ?_);exact ⟨_,[R],Weak.mk (by simp (disch:=omega) only [hRB,Vd,go_sem,seval]),rfl,rfl⟩
      ·rw [if_neg h3] at hRB;exact ⟨_,[R],Weak.mk (by simp (disch:=omega) only [hRB,Vd,Qh,go_sem,seval]),rfl,rfl⟩
theorem P0 (x:Inst) (lc:Bool) (l:List Col) (hC:ColsR x l): ∀d,kM x lc l d
 | 0=>qG x lc l hC
 | d+1=>qH x lc l hC d (P0 x lc l hC d)
end Go.Proofs.YtiigdaohjanidaaGreatDoor.K
