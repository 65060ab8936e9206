/- Declarations that the closing texts need, part 21: joined by tools/slim.py. -/
import Derived.Test.YtiigdaohjanidaaGreatDoorS20
set_option linter.unusedVariables false
set_option linter.unusedSimpArgs false
namespace Go.Proofs.YtiigdaohjanidaaGreatDoor.K
open Go Go.AM Go.Proofs
set_option maxRecDepth 8000
set_option maxHeartbeats 8000000
theorem dC (p:Pln) (i:Nat) (hr:p.routes.length<=1048576) (hu:p.unserved.length<=1048576) (hv: ∀r∈p.routes,r.visits.length<=1048576) :
  PT 47 [.p (Vk p),.p (.int .i64 (i:Nat))] [.p (.int .i64 (Uc p.routes i)),.p (.int .i64 (Y2 p.unserved i))]:=by
 refine Zg [] Tryz.func47 rfl ZfS ?_;simp (disch:=omega) only [Tryz.f47,go_sem,seval];refine Zl [1,2,7] (fun k:Nat=> [(6,.p (.int .i64 (Uc (p.routes.take k) i))),(8,.p (.int .i64 k))]) (fun _=> [Z9 p]) (fun k=>k<=p.routes.length) (fun k=>p.routes.length-k) 0 Zb (Weak.mk ?_) ?_
 ·simp (disch:=omega) only [Z9,Uc,Y6,List.countP_nil,go_sem,seval]
 ·intro k hk;refine JY ?_;refine cD ?_ ?_<;>intro h1<;>simp (disch:=omega) only [Sh.out h1,go_sem,seval,↓reduceIte]
  ·have hk2:k<p.routes.length:=Za
   have hvl:=hv _ (ZH hk2);have hsu:=P6 hk2 i;have hg:=IN (rs:=p.routes) (k:=k) i;refine Zl [1,2,7,8] (fun j:Nat=> [(6,.p (.int .i64 (Uc (p.routes.take k) i))),(9,.p (.int .i64 j))]) (fun _=> [Z9 p]) (fun j=>j<=(nth p.routes k).visits.length/\ ∀q,q<j->(nth (nth p.routes k).visits q).order≠(i:Int)) (fun j=>(nth p.routes k).visits.length-j) 0 Zb (Weak.mk ?_) ?_
   ·simp (disch:=omega) only [Z9,go_sem,seval]
   ·rintro j ⟨hj,hno⟩;refine JY ?_;refine ZD ?_ ?_<;>intro h2
    ·have hj2:j<(nth p.routes k).visits.length:=Za
     refine ZD ?_ ?_<;>intro h3
     ·have hh:hasO (nth p.routes k).visits (i:Int)=true:=XE.2 ⟨_,ZH hj2,h3⟩;rw [if_pos hh] at hsu;exact ⟨k+1,Za,Za,Weak.mk (by simp (disch:=omega) only [hsu,go_sem,seval])⟩
     ·exact ⟨j+1,⟨Za,Zn.2 ⟨hno,h3⟩⟩,Za,wk⟩
    ·have hh: ¬hasO (nth p.routes k).visits (i:Int)=true:=fun e=>by
      obtain ⟨v,hv,e⟩:=XE.1 e;obtain ⟨q,hq,rfl⟩:=ZW.1 hv
      grind [Zh]
     rw [if_neg hh] at hsu;exact ⟨k+1,Za,Za,Weak.mk (by simp (disch:=omega) only [hsu,go_sem,seval])⟩
  ·have hkl:k=p.routes.length:=Za
   subst hkl;rw [XZ];refine Zl [1,2,6] (fun k:Nat=> [(7,.p (.int .i64 (Y2 (p.unserved.take k) i))),(10,.p (.int .i64 k))]) (fun _=> [Z9 p]) (fun k=>k<=p.unserved.length) (fun k=>p.unserved.length-k) 0 Zb (Weak.mk ?_) ?_
   ·simp (disch:=omega) only [Z9,Y2,Y6,List.countP_nil,go_sem,seval]
   ·intro k hk;refine JY ?_;refine cD ?_ ?_<;>intro h2<;>simp (disch:=omega) only [Sh.out h2,go_sem,seval,↓reduceIte]
    ·have hk2:k<p.unserved.length:=Za
     have hsu:=P8 hk2 i;have hg:=IP (us:=p.unserved) (k:=k) i;refine ZD ?_ ?_<;>intro h3
     ·rw [if_pos h3] at hsu;exact ⟨k+1,Za,Za,Weak.mk (by simp (disch:=omega) only [hsu,go_sem,seval])⟩
     ·rw [if_neg h3] at hsu;exact ⟨k+1,Za,Za,Weak.mk (by simp (disch:=omega) only [hsu,go_sem,seval])⟩
    ·have hkl:k=p.unserved.length:=Za
     subst hkl;rw [XZ];exact we
theorem GU {n:Nat} {f:Nat->Bool} {k:Nat} (hk:k<n) (h:f k=true):(List.range n).any f=true:=W1.2 ⟨k,ZS.2 hk,h⟩
theorem N6 {n:Nat} {f:Nat->Bool} (h: ∀j,j<n->f j=false):(List.range n).any f=false:=by
 grind
def cH (x:Inst) (p:Pln) (i:Nat):Bool:= !(nth x.orders i).off&&(decide (Fi p i=0)||(decide (0<Y2 p.unserved i)&&decide ((nth x.orders i).penalty= -1)))
theorem VU {P Q:Prop} (h:Q) (e:Q->P:=by intro h;simp (disch:=omega) only [Zj,Z9,go_sem,seval];exact h):P:=e h
theorem jP (x:Inst) (p:Pln) (hx:InstOk x) (hr:p.routes.length<=1048576) (hu:p.unserved.length<=1048576) (hb: ∀r∈p.routes,Q7 r) :
  PC 16 [.p (ZF x),.p (Vk p)] (.int .i64 (chkP x p)):=by
 have hn:=Bj hx;have ht:=NQ hx;have hvl: ∀r∈p.routes,r.visits.length<=1048576:=fun r hr=>(hb r hr).1
 have cR: ∀i,0<=Uc p.routes i/\Uc p.routes i<=1048576:=fun i=>by have:=TV (rs:=p.routes) i;omega
 have cU: ∀i,0<=Y2 p.unserved i/\Y2 p.unserved i<=1048576:=fun i=>by have:=TX (us:=p.unserved) i;omega
 refine Zg [] Tryz.func16 rfl ZfH ?_;simp (disch:=omega) only [Tryz.f16,go_sem,seval];refine Zl [2,3] (fun k:Nat=> [(5,.p (.int .i64 k))]) (fun _=> [Zj x,Z9 p]) (fun k=>k<=p.routes.length/\ ∀j,j<k->evalE x (nth p.routes j)=0) (fun k=>p.routes.length-k) 0 Zb (Weak.mk ?_) ?_
 ·simp (disch:=omega) only [Zj,Z9,go_sem,seval]
 ·rintro k ⟨hk,h0⟩;refine VU ?_;refine cD ?_ ?_<;>intro h1<;>simp (disch:=omega) only [Sh.out h1,go_sem,seval,↓reduceIte]
  ·have hk2:k<p.routes.length:=Za
   obtain ⟨b1,b2⟩:=hb _ (ZH hk2);refine Z5 7 mixed Ze Ze (Zc ?_);refine Zq (Sz x (nth p.routes k) hx b1 b2) (Zc ?_);refine ZD ?_ ?_<;>intro h2
   ·have he:chkP x p=evalE x (nth p.routes k):=by
     have e:=Hk hk2 h0 h2
     simp_all [chkP]
    rw [he];exact we
   ·exact ⟨k+1,⟨Za,Zn.2 ⟨h0,Za⟩⟩,Za,wk⟩
  ·have hkl:k=p.routes.length:=Za
   subst hkl;have her:=Hl h0;have c0: ¬ ¬errR x p.routes=0:=fun e=>e her;refine Zl [2,3] (fun k:Nat=> [(7,.p (.int .i64 k))]) (fun _=> [Zj x,Z9 p]) (fun k=>k<=p.unserved.length/\ ∀j,j<k->0<=nth p.unserved j/\nth p.unserved j<(x.orders.length:Int)) (fun k=>p.unserved.length-k) 0 Zb (Weak.mk ?_) ?_
   ·simp (disch:=omega) only [Zj,Z9,go_sem,seval]
   ·rintro k ⟨hk,hno⟩;refine VU ?_
    have hbad:k<p.unserved.length->(decide (0<=nth p.unserved k)&&decide (nth p.unserved k<(x.orders.length:Int)))=false->chkP x p=2:=fun h1 h2=>by
     have:Cp x p.unserved=false:=by
      grind [Cp,ZH]
     simp_all [chkP]
    refine cD ?_ ?_<;>intro h2<;>simp (disch:=omega) only [Sh.out h2,go_sem,seval,↓reduceIte]
    ·have hk2:k<p.unserved.length:=Za
     refine Xn (Zc ?_);refine gF ?_ ?_<;>intro h3<;>simp (disch:=omega) only [Sh.out h3,go_sem,seval,↓reduceIte]
     ·rw [hbad hk2 (by simp;omega)];exact we
     ·refine ZD ?_ ?_<;>intro h4
      ·rw [hbad hk2 (by simp;omega)];exact we
      ·exact ⟨k+1,⟨Za,Zn.2 ⟨hno,Za⟩⟩,Za,wk⟩
    ·have hkl:k=p.unserved.length:=Za
     subst hkl
     have X9:Cp x p.unserved=true:=by
      rw [Cp,Zu];intro u hu;obtain ⟨j,hj,rfl⟩:=ZW.1 hu
      grind [Zh]
     have c1: ¬Cp x p.unserved=false:=by grind
     refine Zl [2,3] (fun k:Nat=> [(8,.p (.int .i64 k))]) (fun _=> [Zj x,Z9 p]) (fun k=>k<=x.orders.length/\ ∀j,j<k->decide (1<Fi p j)=false) (fun k=>x.orders.length-k) 0 Zb (Weak.mk ?_) ?_
     ·simp (disch:=omega) only [Zj,Z9,go_sem,seval]
     ·rintro k ⟨hk,hno2⟩;refine VU ?_;refine cD ?_ ?_<;>intro h3<;>simp (disch:=omega) only [Sh.out h3,go_sem,seval,↓reduceIte]
      ·have hk2:k<x.orders.length:=Za
       have a1:=cR k;have a2:=cU k;refine WV (dC p k hr hu hvl) (Zc ?_);refine ZD ?_ ?_<;>intro h4
       ·have hv:chkP x p=6:=by rw [chkP,if_neg c0,if_neg c1,if_pos (show Aq x p=true from GU hk2 (YO h4))]
        rw [hv];exact we
       ·exact ⟨k+1,⟨Za,Zn.2 ⟨hno2,Yd h4⟩⟩,Za,wk⟩
      ·have c2: ¬Aq x p=true:=by grind [Aq]
       have hkl:k=x.orders.length:=Za
       subst hkl;refine Zl [2,3] (fun k:Nat=> [(11,.p (.int .i64 k))]) (fun _=> [Zj x,Z9 p]) (fun k=>k<=x.types.length/\ ∀j,j<k->decide ((nth x.types j).count<AE p.routes j)=false) (fun k=>x.types.length-k) 0 Zb (Weak.mk ?_) ?_
       ·simp (disch:=omega) only [Zj,Z9,go_sem,seval]
       ·rintro t ⟨hk,hno3⟩;refine VU ?_;refine cD ?_ ?_<;>intro h4<;>simp (disch:=omega) only [Sh.out h4,go_sem,seval,↓reduceIte]
        ·have hk2:t<x.types.length:=Za
         refine Zl [2,3,11] (fun k:Nat=> [(12,.p (.int .i64 (AE (p.routes.take k) t))),(13,.p (.int .i64 k))]) (fun _=> [Zj x,Z9 p]) (fun k=>k<=p.routes.length) (fun k=>p.routes.length-k) 0 Zb (Weak.mk ?_) ?_
         ·simp (disch:=omega) only [Zj,Z9,AE,Y6,List.countP_nil,go_sem,seval]
         ·intro k hk;have hg:=TW (rs:=p.routes) (k:=k) t;refine VU ?_;refine cD ?_ ?_<;>intro h5<;>simp (disch:=omega) only [Sh.out h5,go_sem,seval,↓reduceIte]
          ·have hk3:k<p.routes.length:=Za
           have hsu:=P7 hk3 t;refine ZD ?_ ?_<;>intro h6
           ·rw [if_pos h6] at hsu;exact ⟨k+1,Za,Za,Weak.mk (by simp (disch:=omega) only [hsu,go_sem,seval])⟩
           ·rw [if_neg h6] at hsu;exact ⟨k+1,Za,Za,Weak.mk (by simp (disch:=omega) only [hsu,go_sem,seval])⟩
          ·have hkl:k=p.routes.length:=Za
           subst hkl
           rw [XZ] at *
           refine ZD ?_ ?_<;>intro h6
           ·have hv:chkP x p=22:=by rw [chkP,if_neg c0,if_neg c1,if_neg c2,if_pos (show K8 x p=true from GU hk2 (YO h6))]
            rw [hv];exact we
           ·exact ⟨t+1,⟨Za,Zn.2 ⟨hno3,Yd h6⟩⟩,Za,wk⟩
        ·have c3: ¬K8 x p=true:=by grind [K8]
         have hlast:=hno;refine Zl [2,3] (fun k:Nat=> [(14,.p (.int .i64 k))]) (fun _=> [Zj x,Z9 p]) (fun k=>k<=p.unserved.length/\ ∀j,j<k->(nth x.orders (nth p.unserved j).toNat).off=false) (fun k=>p.unserved.length-k) 0 Zb (Weak.mk ?_) ?_
         ·simp (disch:=omega) only [Zj,Z9,go_sem,seval]
         ·rintro k ⟨hk,hno4⟩;refine VU ?_;refine cD ?_ ?_<;>intro h5<;>simp (disch:=omega) only [Sh.out h5,go_sem,seval,↓reduceIte]
          ·have hk2:k<p.unserved.length:=Za
           have hrg:=hno k hk2
           have hui:(nth p.unserved k).toNat<x.orders.length:=Za
           refine Xn (Zc ?_);refine ZD ?_ ?_<;>intro h6
           ·have hcu:0<Y2 p.unserved (nth p.unserved k).toNat:=by
             unfold Y2;have:0<p.unserved.countP fun v=>decide (v=((nth p.unserved k).toNat:Int)):=U1.2 ⟨_,ZH hk2,by grind⟩;omega
            have hst:JX x p=true:=GU hui (by grind)
            have hv:chkP x p=9:=by simp_all [chkP]
            rw [hv];exact we
           ·exact ⟨k+1,⟨Za,Zn.2 ⟨hno4,Za⟩⟩,Za,wk⟩
          ·have hkl:k=p.unserved.length:=Za
           subst hkl
           have hoff: ∀i,i<x.orders.length->0<Y2 p.unserved i->(nth x.orders i).off=false:=fun i hi hc=>by
            unfold Y2 at hc
            have hc2:0<p.unserved.countP fun v=>decide (v=(i:Int)):=Za
            obtain ⟨u,hu,e⟩:=U1.1 hc2;obtain ⟨j,hj,rfl⟩:=ZW.1 hu;have h:=hno4 j hj
            simp_all [Zh]
           have c4: ¬JX x p=true:=by
            rw [JX,N6 fun j hj=> ?_]
            ·simp
            grind
           refine Zl [2,3] (fun k:Nat=> [(15,.p (.int .i64 k))]) (fun _=> [Zj x,Z9 p]) (fun k=>k<=x.orders.length/\ ∀j,j<k->cH x p j=false) (fun k=>x.orders.length-k) 0 Zb (Weak.mk ?_) ?_
           ·simp (disch:=omega) only [Zj,Z9,go_sem,seval]
           ·rintro k ⟨hk,hno5⟩;refine VU ?_;refine cD ?_ ?_<;>intro h6<;>simp (disch:=omega) only [Sh.out h6,go_sem,seval,↓reduceIte]
            ·have hk2:k<x.orders.length:=Za
             have a1:=cR k;have a2:=cU k;have ho:=hoff k hk2
             have miss:(!(nth x.orders k).off&&(decide (Fi p k=0)||(decide (0<Y2 p.unserved k)&&decide ((nth x.orders k).penalty= -1))))=true->chkP x p=23:=fun h=>by
              rw [chkP,if_neg c0,if_neg c1,if_neg c2,if_neg c3,if_neg c4,if_pos (show CB x p=true from GU hk2 h)]
             have nxt:(!(nth x.orders k).off&&(decide (Uc p.routes k+Y2 p.unserved k=0)||(decide (0<Y2 p.unserved k)&&decide ((nth x.orders k).penalty= -1))))=false-> ∀j,j<k+1->cH x p j=false:=fun h=>Zn.2 ⟨hno5,h⟩;have hoc:Fi p k=Uc p.routes k+Y2 p.unserved k:=rfl;rw [hoc] at miss;refine WV (dC p k hr hu hvl) ?_
             generalize Uc p.routes k=ca at *
             generalize Y2 p.unserved k=cb at *
             refine Zc ?_
             cases hof:(nth x.orders k).off with
             | false =>
              refine gT ?_ ?_<;>intro h7<;>simp (disch:=omega) only [Sh.out h7,hof,Q3,go_sem,seval,↓reduceIte]
              ·rw [miss (by grind)];exact we
              ·refine gT ?_ ?_<;>intro h8<;>simp (disch:=omega) only [Sh.out h8,hof,go_sem,seval]
               ·refine ZD ?_ ?_<;>intro h9
                ·rw [miss (by grind)];exact we
                ·exact ⟨k+1,⟨Za,nxt (by grind)⟩,Za,wk⟩
               ·exact ⟨k+1,⟨Za,nxt (by grind)⟩,Za,wk⟩
             | true =>
              have hcb: ¬ 0<cb:=fun e=>by grind
              have hn: ∀j,j<k+1->cH x p j=false:=nxt (by simp [hof]);refine gT ?_ ?_<;>intro h7<;>simp (disch:=omega) only [Sh.out h7,hof,VY,go_sem,seval,↓reduceIte]
              ·refine K6 ?_ ?_<;>intro h8
               ·omega
               ·exact ⟨k+1,⟨Za,hn⟩,Za,wk⟩
              ·refine K6 ?_ ?_<;>intro h8
               ·omega
               ·exact ⟨k+1,⟨Za,hn⟩,Za,wk⟩
            ·have c5: ¬CB x p=true:=by rw [show CB x p=false from N6 fun j hj=>hno5 j Za];simp
             have hv:chkP x p=0:=by simp_all [chkP]
             rw [hv];exact we
set_option maxRecDepth 60000
theorem ZfF (l:List Rte) (c:Bool) (g:FuncId) (caps:List V) (H:List AM.Obj) (f:Rte->Bool) (hl:l.length<=1048576) (hW:Ic H H.length H H) (hc:Xe H.length caps=true)
  (hg: ∀v∈l,ACalls Tryz.prog g (.p (Z0 v)::caps) H fun x H'=>x= .p (.bool (f v))/\H'=H) :
  ACalls Tryz.prog 121 [.p (.list c (l.map Z0)),.fn (.func g) [] caps] H fun x H'=>(∃i:Int,(0<=i↔l.any f=true)/\x= .p (.int .i64 i))/\H'=H:=by
 refine X8 Tryz.func121 rfl uS (Zf [] _ _ _ _ ?_);simp (disch:=omega) only [Tryz.f121,go_sem,seval];refine Zl [0,1,7] (fun k:Nat=> [(8,.p (.int .i64 k))]) (fun _=>H) (fun k=>k<=l.length/\ ∀j,j<k->f (nth l j)=false) (fun k=>l.length-k) 0 Zb (Weak.mk ?_) ?_
 ·simp (disch:=omega) only [hW,hc,go_sem,seval];simp
 ·rintro k ⟨hk,hno⟩;refine Zc ?_;refine cD ?_ ?_<;>intro h<;>simp (disch:=omega) only [Sh.out h,go_sem,seval,↓reduceIte]
  ·have hk2:k<l.length:=Za
   have hgk:=hg (nth l k) (Zo hk2);simp (disch:=omega) only [go_sem,seval] at hgk;refine hgk.useH (Zc ?_);refine cD ?_ ?_<;>intro h2<;>simp (disch:=omega) only [Sh.out h2,go_sem,seval,↓reduceIte]
   ·exact ⟨(k:Int),⟨fun _=>W1.2 ⟨_,Zo hk2,h2⟩,fun _=>Za⟩,rfl⟩
   ·have h3:f (nth l k)=false:=Za
    refine ⟨k+1,⟨Za,Zn.2 ⟨hno,h3⟩⟩,Za,Weak.mk ?_⟩;simp (disch:=omega) only [hW,hc,go_sem,seval];simp
  ·have hkl:k=l.length:=Za
   subst hkl
   have hn:l.any f=false:=by
    rw [Yi];intro r hr;obtain ⟨j,hj,rfl⟩:=ZW.1 hr
    grind [Zh]
   grind
theorem ZaX (now:Int):PC 62 [.p (.int .i64 now)] (.bool (decide (0<=now/\now<=4096))):=by
 refine Zd Tryz.func62 rfl Zf2 ?_;simp (disch:=omega) only [Tryz.f62,go_sem,seval];refine gT ?_ ?_<;>intro h1<;>simp (disch:=omega) only [Sh.out h1,go_sem,seval,↓reduceIte]
def pdep (s:She):Nat->Int
 | 0=>s.dep
 | i+1=>(nth s.times i).dep
structure LabS (sp:List Stp) (k:Nat) (L:Lab):Prop where
 len:L.she.times.length=k
 seg: ∀i,i<k->((nth L.she.times i).arr<=(nth L.she.times i).beg/\0<=(nth L.she.times i).arr/\(nth L.she.times i).beg<=4096)/\pdep L.she i<=(nth L.she.times i).arr
 dep: ∀i,i+1<k->(nth L.she.times i).beg+(nth sp i).serv<=(nth L.she.times i).dep
 fst:0<k->0<=L.she.dep
 rdy: ∀i,i+1=k->L.ready=(nth L.she.times i).beg+(nth sp i).serv
 ge:0<=L.ready
structure SheOk (sp:List Stp) (s:She):Prop where
 len:s.times.length=sp.length
 seg: ∀i,i<sp.length->((nth s.times i).arr<=(nth s.times i).beg/\0<=(nth s.times i).arr/\(nth s.times i).beg<=4096)/\pdep s i<=(nth s.times i).arr
 dep: ∀i,i<sp.length->(nth s.times i).beg+(nth sp i).serv<=(nth s.times i).dep
 fst:0<=s.dep
 lst:pdep s sp.length<=s.fin
theorem cY {α:Type} [Inhabited α] {l:List α} {i j:Nat} {a:α} (h:i<l.length):nth (l.set i a) j=if i=j then a else nth l j:=by
 grind [nth]
theorem cZ {α:Type} [Inhabited α] {l:List α} {j:Nat} {a:α} (h:j<l.length):nth (l++ [a]) j=nth l j:=by
 grind [nth]
theorem cX {α:Type} [Inhabited α] {l:List α} {a:α} :nth (l++ [a]) l.length=a:=by
 grind [nth]
structure MarkS (sp:List Stp) (k:Nat) (d:Int) (m:She):Prop where
 len:m.times.length=k
 seg: ∀i,i<k->((nth m.times i).arr<=(nth m.times i).beg/\0<=(nth m.times i).arr/\(nth m.times i).beg<=4096)/\pdep m i<=(nth m.times i).arr
 dep: ∀i,i<k->(nth m.times i).beg+(nth sp i).serv<=(nth m.times i).dep
 fst:0<=m.dep
 cur:pdep m k=d
theorem OR {sp:List Stp} {k:Nat} {L:Lab} {d:Int} {b:Bool} (h:LabS sp k L) (hd:L.ready<=d):MarkS sp k d (XB k d b L.she):=by
 have hge:=h.ge
 cases k with
 | zero =>
  have e:XB 0 d b L.she= { L.she with rest:=b,dep:=d } :=by simp [XB]
  rw [e];exact ⟨h.len,fun i hi=>Za,fun i hi=>Za,by grind,rfl⟩
 | succ k =>
  have hl:=h.len;have hr:=h.rdy k rfl
  have e:XB (k+1) d b L.she= { L.she with times:=L.she.times.set k { nth L.she.times k with dep:=d,rest:=b } } :=by rfl
  rw [e];have hn: ∀i,nth (L.she.times.set k { nth L.she.times k with dep:=d,rest:=b }) i=if k=i then { nth L.she.times k with dep:=d,rest:=b } else nth L.she.times i:=fun i=>cY Za;refine ⟨by grind,fun i hi=> ?_,fun i hi=> ?_,h.fst Za,?_⟩
  ·have hs:=h.seg i hi
   have ha:(nth (L.she.times.set k { nth L.she.times k with dep:=d,rest:=b }) i).arr=(nth L.she.times i).arr/\(nth (L.she.times.set k { nth L.she.times k with dep:=d,rest:=b }) i).beg=(nth L.she.times i).beg:=by
    grind
   simp only;rw [ha.1,ha.2];refine ⟨hs.1,?_⟩
   cases i with
   | zero=>exact hs.2
   | succ i =>
    simp only [pdep] at hs ⊢
    grind
  ·simp only;rw [hn]
   split
   ·grind
   ·exact h.dep i Za
  ·simp only [pdep]
   grind
theorem lO {x:Inst} {t:Typ} {sp:List Stp} {k:Nat} {L:Lab} {b:Bool} (hT:TrpOk x t sp) (hk:k<sp.length) (h:LabS sp k L) (he:(XT x t sp k L b).2=0):LabS sp (k+1) (XT x t sp k L b).1:=by
 have hrs:=hT.rst
 have hd:L.ready<=ZE t L b:=by grind [ZE]
 have hge:=h.ge;have hm:=OR (b:=b) h hd;have hgo:(YH x t sp k (ZE t L b)).2.2=0->ZE t L b<=(YH x t sp k (ZE t L b)).1:=fun e=>Hr hT.net e;have hst:=hT.stp _ (ZH hk);unfold XT at he ⊢
 generalize YH x t sp k (ZE t L b)=g at *
 generalize ZE t L b=d at *
 generalize Wy L b=s at *
 generalize XB k d b L.she=m at *
 have hk2: ¬k=sp.length:=Za
 unfold Y9 at he ⊢;simp only [if_neg hk2] at he ⊢
 split at he
 ·simp at he
 ·rename_i c1;rw [if_neg c1];have hg:=hgo Za
  split at he
  ·simp at he
  ·rename_i c2;rw [if_neg c2]
   split at he
   ·simp at he
   ·rename_i c3;rw [if_neg c3];have hml:=hm.len;have hn: ∀i,i<k->nth (m.times++ [⟨g.1,max g.1 (nth sp k).opn,0,false⟩]) i=nth m.times i:=fun i hi=>cZ Za
    have hl:nth (m.times++ [(⟨g.1,max g.1 (nth sp k).opn,0,false⟩:Tim)]) k=⟨g.1,max g.1 (nth sp k).opn,0,false⟩:=by grind [cX]
    refine ⟨by simp [hml],fun i hi=> ?_,fun i hi=> ?_,fun _=>hm.fst,fun i hi=> ?_,by grind⟩
    ·have hpd:pdep { m with times_c:=false,times:=m.times++ [⟨g.1,max g.1 (nth sp k).opn,0,false⟩],miles:=m.miles+g.2.1 } i=pdep m i:=by
      cases i with
      | zero=>rfl
      | succ i=>grind [pdep]
     simp only at hpd ⊢;rw [hpd]
     by_cases e:i=k
     ·subst e;rw [hl,hm.cur]
      grind
     ·rw [hn i Za];exact hm.seg i Za
    ·simp only;rw [hn i Za];exact hm.dep i Za
    grind
theorem lM {x:Inst} {t:Typ} {sp:List Stp} {L:Lab} {b:Bool} (hT:TrpOk x t sp) (h:LabS sp sp.length L) (he:(XT x t sp sp.length L b).2=0):SheOk sp (XT x t sp sp.length L b).1.she:=by
 have hrs:=hT.rst
 have hd:L.ready<=ZE t L b:=by grind [ZE]
 have hm:=OR (b:=b) h hd;have hgo:(YH x t sp sp.length (ZE t L b)).2.2=0->ZE t L b<=(YH x t sp sp.length (ZE t L b)).1:=fun e=>Hr hT.net e;unfold XT at he ⊢
 generalize YH x t sp sp.length (ZE t L b)=g at *
 generalize ZE t L b=d at *
 generalize Wy L b=s at *
 generalize XB sp.length d b L.she=m at *
 unfold Y9 at he ⊢;simp only [if_true] at he ⊢
 split at he
 ·simp at he
 ·rename_i c1;rw [if_neg c1];have hg:=hgo Za
  split at he
  ·simp at he
  ·rename_i c2;rw [if_neg c2]
   split at he
   ·simp at he
   ·rename_i c3;rw [if_neg c3]
    have hpd: ∀i,pdep { m with fin:=g.1,miles:=m.miles+g.2.1 } i=pdep m i:=fun i=>by rfl
    refine ⟨hm.len,fun i hi=> ?_,hm.dep,hm.fst,?_⟩
    ·rw [hpd];exact hm.seg i hi
    ·rw [hpd,hm.cur];exact hg
theorem O7 {x:Inst} {t:Typ} {sp:List Stp} (hT:TrpOk x t sp): ∀(bs:List Bool) (k:Nat) (L:Lab),LabS sp k L->k+bs.length=sp.length+1->0<bs.length->(Xu x t sp k L bs).2=0->SheOk sp (Xu x t sp k L bs).1.she
 | [],k,L,_,_,h3,_=>by simp at h3
 | b::bs,k,L,h1,h2,_,h=>by
  rw [Xu] at h ⊢
  by_cases h4:(XT x t sp k L b).2=0
  ·simp only [h4,if_true] at h ⊢
   cases bs with
   | nil =>
    simp_all [Xu,lM]
   | cons b2 bs =>
    simp at h2;exact O7 hT (b2::bs) (k+1) _ (lO hT Za h1 h4) (by simp;omega) Zb h
  grind
theorem aA {x:Inst} {r:Rte} (hx:InstOk x) (h:evalE x r=0):SheOk (Xs x r.visits) (Xc x r):=by
 obtain ⟨hty,h0,hs⟩:=WO (Wr h)
 have e:Xc x r=(Xl x r).1:=by rw [Xc,if_pos h]
 have ee:(Xl x r).2=0:=by rw [evalE,if_pos (Wr h)] at h;exact h
 have hT:=Qw hx hty (W6 h0);obtain ⟨bs,hb1,hb2,hb3⟩:=FJ (by grind [X0]) ee;have hb3:(Xl x r).1=_:=hb3;rw [e,hb3];have hop:=hT.opn;refine O7 hT bs 0 _ ⟨rfl,fun i hi=>Za,fun i hi=>Za,fun h=>Za,fun i hi=>Za,?_⟩ Za Za hb2
 grind [Xy]
def Qr (s:She):AM.Obj:= .cells [.p (.bool s.rest),.p (.int .i64 s.dep),.p (.list s.times_c (s.times.map eTim)),.p (.int .i64 s.fin),.p (.int .i64 s.miles)]
def EE (s:Sco):AM.Obj:= .cells [.p (.int .i64 s.cost),.p (.int .i64 s.moved),.p (.int .i64 s.other),.p (.int .i64 s.work)]
def tX (x:Inst) (r:Rte) (s:She) (i:Nat):Int:=(nth s.times i).beg+(stopV x (nth r.visits i)).serv
structure FixOk (x:Inst) (r:Rte) (s:She):Prop where
 typ:0<=r.typ/\r.typ<(x.types.length:Int)
 tl:x.types.length<=6
 ol:x.orders.length<=10
 vl:r.visits.length<=1048576
 len:s.times.length=r.visits.length
 inr: ∀i,i<r.visits.length->0<=(nth r.visits i).order/\(nth r.visits i).order<(x.orders.length:Int)
 beg: ∀i,i<r.visits.length->0<=(nth s.times i).beg/\(nth s.times i).beg<=4096
 srv: ∀i,i<r.visits.length->0<=(stopV x (nth r.visits i)).serv/\(stopV x (nth r.visits i)).serv<=4096
theorem Rc (x:Inst) (r:Rte) (s:She) (hf:FixOk x r s) (i:Nat) (hi:i<r.visits.length) :
  PC 124 [.p (ZF x),.p (Z0 r),.p (AK s),.p (.int .i64 i)] (.int .i64 (tX x r s i)):=by
 obtain ⟨h1,h2⟩:=hf.inr i hi;have h3:=hf.beg i hi;have h4:=hf.srv i hi;have h5:=hf.len;have h6:=hf.vl;have h7:=hf.ol
 have hto:(nth r.visits i).order.toNat<x.orders.length:=Za
 refine Zd Tryz.func124 rfl uT ?_;simp (disch:=omega) only [Tryz.f124,go_sem,seval];refine XX [10,11] 12 mixed Ze Ze Ze Zb (Zc ?_);refine Xb 10 _ _ Ze (by refine Zc ?_;exact ⟨rfl,rfl⟩) ?_;refine Zc ?_;refine Xb 11 _ _ Ze (by refine Zc ?_;exact ⟨rfl,rfl⟩) (Wb ?_);refine Zc ?_;unfold tX
 cases hd:(nth r.visits i).drp with
 | true =>
  rw [stopV,hd,if_pos rfl] at h4 ⊢;refine Zc ?_;refine Xn ?_;simp (disch:=omega) only [go_sem,seval,↓reduceIte]
 | false =>
  rw [stopV,hd,if_neg Zb] at h4 ⊢;refine Zc ?_;refine Xn ?_;simp (disch:=omega) only [go_sem,seval,↓reduceIte]
def Sa (x:Inst) (r:Rte) (s:She):Nat->Int
 | 0=>max (ZR x r).opn r.start
 | k+1=>tX x r s k
def Ho (x:Inst) (r:Rte) (s:She) (now:Int):Nat->Nat->Nat
 | 0,k=>k
 | f+1,k=>if now<=Sa x r s k then k else Ho x r s now f (k+1)
def AQ (x:Inst) (r:Rte) (s:She) (now:Int):Nat:=Ho x r s now r.visits.length 0
def AG (x:Inst) (r:Rte) (s:She) (now:Int):Bool:=decide (AQ x r s now=r.visits.length)&&(decide (0<r.visits.length)&&decide (Sa x r s r.visits.length<now))
theorem Ov {x r s now} : ∀f k,k<=Ho x r s now f k/\Ho x r s now f k<=k+f
 | 0,k=>by simp [Ho]
 | f+1,k=>by
  rw [Ho];have:=Ov (x:=x) (r:=r) (s:=s) (now:=now) f (k+1)
  split<;>omega
theorem Ow {x r s now} :AQ x r s now<=r.visits.length:=by grind [Ov,AQ]
theorem Rh (x:Inst) (r:Rte) (s:She) (now:Int) (hf:FixOk x r s) (ho:0<=(ZR x r).opn/\(ZR x r).opn<=4096) (hs: -9223372036854775808<=r.start/\r.start<=9223372036854775807) :
  PT 75 [.p (ZF x),.p (Z0 r),.p (AK s),.p (.int .i64 now)] [.p (.int .i64 (AQ x r s now)),.p (.bool (AG x r s now))]:=by
 have h1:=hf.typ;have h2:=hf.tl;have h5:=hf.len;have h6:=hf.vl;have e0:Sa x r s 0=max (nth x.types r.typ.toNat).opn r.start:=rfl;refine Zg [] Tryz.func75 rfl Zf5 ?_;simp (disch:=omega) only [Tryz.f75,go_sem,seval];refine Xn (Zc ?_);rw [<- e0];refine Zl [3,4,5,6] (fun k:Nat=> [(10,.p (.int .i64 k)),(11,.p (.int .i64 (Sa x r s k))),(12,.p (.int .i64 k))]) (fun _=> [Zj x,ZO r,Qr s]) (fun k=>k<=r.visits.length/\AQ x r s now=Ho x r s now (r.visits.length-k) k) (fun k=>r.visits.length-k) 0 ⟨Zb,rfl⟩ (Weak.mk ?_) ?_
 ·simp (disch:=omega) only [Zj,ZO,Qr,go_sem,seval]
 ·rintro k ⟨hk,hfx⟩;simp (disch:=omega) only [Zj,ZO,Qr,go_sem,seval];refine cD ?_ ?_<;>intro h<;>simp (disch:=omega) only [Sh.out h,go_sem,seval,↓reduceIte]
  ·have hk2:k<r.visits.length:=Za
   obtain ⟨d,hd⟩: ∃d,r.visits.length-k=d+1:=⟨r.visits.length-k-1,Za⟩;rw [hd,Ho] at hfx;refine cD ?_ ?_<;>intro h3<;>simp (disch:=omega) only [Sh.out h3,go_sem,seval,↓reduceIte]
   ·rw [if_pos h3] at hfx
    have hdn:AG x r s now=false:=by rw [AG,Yd Za,U2]
    rw [hdn,hfx];exact we
   ·rw [if_neg h3,show d=r.visits.length-(k+1) by omega] at hfx;refine (Rc x r s hf k hk2).use ?_;refine Zc ?_;exact ⟨k+1,⟨Za,hfx⟩,Za,Weak.mk (by simp (disch:=omega) only [Sa,go_sem,seval])⟩
  ·have hkl:k=r.visits.length:=Za
   subst hkl;rw [Nat.sub_self,Ho] at hfx
   have hdn:AG x r s now=(decide (0<r.visits.length)&&decide (Sa x r s r.visits.length<now)):=by simp_all [AG]
   rw [hfx];generalize AG x r s now=D at hdn;refine gT ?_ ?_<;>intro h4<;>simp (disch:=omega) only [Sh.out h4,go_sem,seval,↓reduceIte]
   ·rw [YO (show 0<r.visits.length by omega),Wl] at hdn;exact we (by simp (disch:=omega) only [hdn,go_sem,seval])
   ·rw [Yd (show ¬ 0<r.visits.length by omega),U2] at hdn;exact we (by simp (disch:=omega) only [hdn,go_sem,seval])
def Fw (s:She):List Bool:=s.rest::s.times.map (·.rest)
theorem BH {s:She} :(Fw s).length=s.times.length+1:=by simp [Fw]
theorem Sc (s:She) (hl:s.times.length<=1048576):PC 76 [.p (AK s)] (.list false ((Fw s).map eB)):=by
 refine Zg [6] Tryz.func76 rfl Zf6 ?_;simp (disch:=omega) only [Tryz.f76,go_sem,seval];refine ZT [6] [1] (fun q:Nat×List Bool=> [(3,.sl 1 0 q.2.length q.2.length),(4,.p (.int .i64 q.1))]) (fun q=> [Qr s,.elems 1 (q.2.map eB)]) (fun q=>q.1<=s.times.length/\q.2=(Fw s).take (q.1+1)) (fun q=>s.times.length-q.1) (0,[s.rest]) ⟨Zb,by simp [Fw]⟩ (Weak.mk ?_) ?_
 ·simp (disch:=omega) only [Qr,Zz,ZA,Zt,Zm,go_sem,seval]
 ·rintro ⟨k,m⟩ ⟨hk,hm⟩;simp only at hk hm
  have hml:m.length=k+1:=by grind [BH]
  simp (disch:=omega) only [Qr,go_sem,seval];refine ZD ?_ ?_<;>intro h
  ·have hk2:k<s.times.length:=Za
   have htk:m++ [(nth s.times k).rest]=(Fw s).take (k+1+1):=by
    grind [Xw,Fw,Zh]
   exact ⟨(k+1,m++ [(nth s.times k).rest]),⟨Za,htk⟩,Za,wk⟩
  ·have hkl:k=s.times.length:=Za
   subst hkl;rw [List.take_of_length_le (by rw [BH];omega)] at hm;subst hm;refine Zr (Weak.fz (o:=1) (by rfl)) (Zf [] _ _ _ _ (VG ?_));exact we
def Af (x:Inst) (now:Int) (r:Rte):Rte:=⟨r.typ,r.start,false,(Fw (Xc x r)).take (AQ x r (Xc x r) now+if AG x r (Xc x r) now=true then 1 else 0),false,r.visits.take (AQ x r (Xc x r) now)⟩
def pfxL (x:Inst) (now:Int):Nat->List Rte->List Rte
 | 0,_=> []
 | k+1,l=>pfxL x now k l++if AQ x (nth l k) (Xc x (nth l k)) now=0 then [] else [Af x now (nth l k)]
theorem JO {x:Inst} {now:Int} {l:List Rte} : ∀k,(pfxL x now k l).length<=k
 | 0=>by simp [pfxL]
 | k+1=>by
  have:=JO (x:=x) (now:=now) (l:=l) k;rw [pfxL,ZI]
  split<;>simp<;>omega
def eM (x:Inst) (p:Pln) (now:Int):V:=if now<0\/4096<now then .tup [.p (.list true []),.p (.int .i64 2)] else if errR x p.routes=0 then .tup [.p (.list false ((pfxL x now p.routes.length p.routes).map Z0)),.p (.int .i64 0)] else .tup [.p (.list true []),.p (.int .i64 (errR x p.routes))]
theorem AR {x:Inst} {r:Rte} (hx:InstOk x) (h:evalE x r=0) (hl:r.visits.length<=1048576):FixOk x r (Xc x r):=by
 have hs:=aA hx h;obtain ⟨ht,hsq,_⟩:=WO (Wr h);have hr:=W6 hsq
 have hlen:(Xs x r.visits).length=r.visits.length:=by simp [Xs]
 refine ⟨ht,NQ hx,Bj hx,hl,by rw [hs.len,hlen],fun i hi=>hr.inr _ (Zo hi),fun i hi=> ?_,fun i hi=> ?_⟩
 ·have:=(hs.seg i Za).1;omega
 ·have hin:=hr.inr _ (Zo hi);have ho:=hx.orders.2 (nth r.visits i).order.toNat Za;have h1:=ho.pstp;have h2:=ho.dstp;simp only [stpOk,Zp] at h1 h2
  grind [stopV]
theorem Bs (x:Inst) (p:Pln) (now:Int) (hx:InstOk x) (hr:p.routes.length<=1048576) (hb: ∀r∈p.routes,Q7 r) :
  ACalls Tryz.prog 32 [.p (ZF x),.p (Vk p),.p (.int .i64 now)] [] fun y H'=>y=eM x p now/\H'= []:=by
 obtain ⟨T,hT⟩: ∃T,T=eM x p now:=⟨_,rfl⟩;rw [<- hT];unfold eM at hT;refine Zg [4] Tryz.func32 rfl ZfN ?_;simp (disch:=omega) only [Tryz.f32,go_sem,seval];refine gF ?_ ?_<;>intro g0<;>simp (disch:=omega) only [Sh.out g0,go_sem,seval,↓reduceIte]
 ·rw [if_pos (.inl g0)] at hT;exact ⟨T,[],Weak.mk (by simp (disch:=omega) only [hT,go_sem,seval]),rfl,rfl⟩
 ·refine cD ?_ ?_<;>intro g1<;>simp (disch:=omega) only [Sh.out g1,go_sem,seval]
  ·rw [if_pos (.inr g1)] at hT;exact ⟨T,[],Weak.mk (by simp (disch:=omega) only [hT,go_sem,seval]),rfl,rfl⟩
  ·rw [if_neg (show ¬(now<0\/4096<now) by omega)] at hT;refine Zr (Weak.ofNil 8 4 (by simp (disch:=omega) only [go_sem,seval]) Zb (Weak.refl _ _ _)) ?_;refine Zf [21] _ _ _ _ (Zc ?_);refine ZT [15,21] [2,3,4] (fun q:Nat×List Rte=> [(8,.sl 2 0 q.2.length q.2.length),(9,.p (.int .i64 q.1))]) (fun q=> [Zj x,Z9 p,.elems 4 (q.2.map Z0)]) (fun q=>q.1<=p.routes.length/\(∀j,j<q.1->evalE x (nth p.routes j)=0)/\q.2=pfxL x now q.1 p.routes) (fun q=>p.routes.length-q.1) (0,[]) ⟨Zb,Zb,rfl⟩ (Weak.mk ?_) ?_
   ·simp (disch:=omega) only [Zj,Z9,ZA,Zm,go_sem,seval]
   ·rintro ⟨k,m⟩ ⟨hk,hz,hm⟩;simp only at hk hz hm
    have hml:m.length<=k:=by grind [JO]
    have hms:=hm;refine VU ?_;refine cD ?_ ?_<;>intro h<;>simp (disch:=omega) only [Sh.out h,go_sem,seval,↓reduceIte]
    ·have hk2:k<p.routes.length:=Za
     obtain ⟨b1,b2⟩:=hb _ (Zo hk2);have ce:=AN x (nth p.routes k) hx b1 b2;unfold AL at ce;refine Mh ce (Zc ?_);refine cD ?_ ?_<;>intro h2<;>simp (disch:=omega) only [Sh.out h2,go_sem,seval,↓reduceIte]
     ·have her:=Hk hk2 hz h2;rw [if_neg Za,her] at hT;exact ⟨T,[],Weak.mk (by simp (disch:=omega) only [hT,go_sem,seval]),rfl,rfl⟩
     ·have hz0:evalE x (nth p.routes k)=0:=Za
      obtain ⟨hty,hsq,hst⟩:=WO (Wr hz0);have hfx:=AR hx hz0 b1;obtain ⟨t1,_⟩:=Qx hx (show (nth p.routes k).typ.toNat<x.types.length by omega)
      have hsn:pfxL x now (k+1) p.routes=m++if AQ x (nth p.routes k) (Xc x (nth p.routes k)) now=0 then [] else [Af x now (nth p.routes k)]:=by rw [pfxL,hm]
      have hnl:=Ow (x:=x) (r:=nth p.routes k) (s:=Xc x (nth p.routes k)) (now:=now);have hrl:=BH (s:=Xc x (nth p.routes k));rw [hfx.len] at hrl;refine WV (Rh x (nth p.routes k) (Xc x (nth p.routes k)) now hfx ⟨t1.1,Int.le_trans t1.2.1 t1.2.2⟩ Za) (Zc ?_);refine ZD ?_ ?_<;>intro h3
      ·rw [if_pos Za,Uj] at hsn;exact ⟨(k+1,m),⟨Za,Zn.2 ⟨hz,hz0⟩,hsn.symm⟩,Za,wk⟩
      ·rw [if_neg Za] at hsn;refine (Sc (Xc x (nth p.routes k)) (by rw [hfx.len];omega)).use (Zc ?_);obtain ⟨K,hK⟩: ∃K:Nat,K=AQ x (nth p.routes k) (Xc x (nth p.routes k)) now+if AG x (nth p.routes k) (Xc x (nth p.routes k)) now=true then 1 else 0:=⟨_,rfl⟩
       have hpf:Af x now (nth p.routes k)=⟨(nth p.routes k).typ,(nth p.routes k).start,false,(Fw (Xc x (nth p.routes k))).take K,false,(nth p.routes k).visits.take (AQ x (nth p.routes k) (Xc x (nth p.routes k)) now)⟩:=by rw [Af,<- hK]
       have hKl:K<=(nth p.routes k).visits.length+1:=by grind
       generalize AQ x (nth p.routes k) (Xc x (nth p.routes k)) now=N at hnl h3 hK hpf hsn ⊢;refine ZC [2,3,4,8,9,10,14,16] (fun _:Unit=> [(17,.p (.int .i64 K))]) (fun _=> [Zj x,Z9 p,.elems 4 (m.map Z0),ZO (nth p.routes k),Qr (Xc x (nth p.routes k)),EE (X2 x (nth p.routes k))]) (fun _=>True) ?_ ?_
       ·cases hd:AG x (nth p.routes k) (Xc x (nth p.routes k)) now with
        | true =>
         rw [if_pos hd] at hK;refine Zc ?_;exact ⟨(),Weak.mk (by simp (disch:=omega) only [Zj,Z9,ZO,Qr,EE,hK,go_sem,seval])⟩
        | false =>
         rw [if_neg (by rw [hd];simp)] at hK;refine Zc ?_;exact ⟨(),Weak.mk (by simp (disch:=omega) only [Zj,Z9,ZO,Qr,EE,hK,go_sem,seval])⟩
       ·intro _ _;refine Zf [19,21] _ _ _ _ ?_;simp (disch:=omega) only [Zj,Z9,ZO,Qr,EE,go_sem,seval]
        have q1:((Fw (Xc x (nth p.routes k))).take K).length=K:=by grind
        have q2:((nth p.routes k).visits.take N).length=N:=by grind
        refine Z5 5 mixed Ze Ze ?_;refine Zc ?_;rw [if_pos ⟨Za,Za⟩];refine Zc ?_;refine ZC [2,3,4,8,9,18] (fun _:Unit=> []) (fun _=> [Zj x,Z9 p,.elems 4 (m.map Z0),ZO (nth p.routes k),Qr (Xc x (nth p.routes k)),EE (X2 x (nth p.routes k)),ZO (Af x now (nth p.routes k)),.dead,.dead]) (fun _=>True) ?_ ?_
        ·refine Zc ?_;refine Z5 6 mixed Ze Ze ?_;refine Zc ?_;rw [if_pos ⟨Za,Za⟩];refine Zc ?_;exact ⟨(),(Weak.fz (o:=7) (by rfl)).trans ((Weak.fz (o:=8) (by rfl)).trans (Weak.mk (by simp (disch:=omega) only [Zj,Z9,ZO,Qr,EE,hpf,q1,q2,eq_self,ZM,Zt,Zm,Xp,Z7,go_sem,seval,↓reduceIte])))⟩
        ·intro _ _;refine Zf [21] _ _ _ _ ?_;simp (disch:=omega) only [Zj,Z9,ZO,Qr,EE,go_sem,seval];exact ⟨(k+1,m++ [Af x now (nth p.routes k)]),⟨Za,Zn.2 ⟨hz,hz0⟩,hsn.symm⟩,Za,wk⟩
    ·have hkl:k=p.routes.length:=Za
     subst hkl;rw [if_pos (Hl hz),<- hm] at hT;refine Zr (Weak.fz (o:=2) (by rfl)) (Zf [] _ _ _ _ (VG ?_));exact ⟨T,[],Weak.mk (by simp (disch:=omega) only [hT,go_sem,seval]),rfl,rfl⟩
theorem IX {x:Inst} {l:List Rte} :errR x l=0↔ ∀r∈l,evalE x r=0:=by
 induction l with
 | nil=>simp [errR]
 | cons r l ih =>
  rw [errR]
  grind
def RH (x:Inst):Nat:=Vd (fun i=> !(nth x.orders i).off) x.orders.length
theorem Ds (x:Inst) (hn:x.orders.length<=60):PC 56 [.p (ZF x)] (.int .i64 (RH x:Nat)):=by
 refine Zd Tryz.func56 rfl ZfW ?_;simp (disch:=omega) only [Tryz.f56,go_sem,seval];refine Zl [1] (fun k:Nat=> [(3,.p (.int .i64 (Vd (fun i=> !(nth x.orders i).off) k:Nat))),(4,.p (.int .i64 (pw k:Nat))),(5,.p (.int .i64 (k:Int)))]) (fun _=> [Zj x]) (fun k=>k<=x.orders.length) (fun k=>x.orders.length-k) 0 Zb (Weak.mk ?_) ?_
 ·simp (disch:=omega) only [Vd,Zj,show pw 0=1 from rfl,go_sem,seval]
 ·intro k hk;have hsl:=BF (fun i=> !(nth x.orders i).off) k;have hsi:pw k<=pw 60:=CF Za;have e60:pw 60=1152921504606846976:=rfl
  have hps:((pw (k+1):Nat):Int)=(pw k:Int)*2:=by rfl
  refine Ve ?_;refine gT ?_ ?_<;>intro h1<;>simp (disch:=omega) only [Sh.out h1,go_sem,seval,↓reduceIte]
  ·have hk2:k<x.orders.length:=Za
   have q2:(k:Int)<63:=Za
   simp (disch:=omega) only [q2,go_sem,seval]
   cases ho:(nth x.orders k).off with
   | true =>
    have he:Vd (fun i=> !(nth x.orders i).off) (k+1)=Vd (fun i=> !(nth x.orders i).off) k:=by simp [Vd,ho]
    refine Zc ?_;exact ⟨k+1,Za,Za,Weak.mk (by simp (disch:=omega) only [he,hps,go_sem,seval])⟩
   | false =>
    have he:((Vd (fun i=> !(nth x.orders i).off) (k+1):Nat):Int)=(Vd (fun i=> !(nth x.orders i).off) k:Int)+(pw k:Int):=by simp [Vd,ho]
    refine Zc ?_;exact ⟨k+1,Za,Za,Weak.mk (by simp (disch:=omega) only [he,hps,go_sem,seval])⟩
  ·have:k=x.orders.length:=Za
   subst this
   rfl
theorem R0 (p:Pln) (hp:p.wf 1048576):PC 27 [.p (Vk p)] (.bool (smB p)):=by
 obtain ⟨w1,w2,w3,w4⟩:=hp;refine Zd Tryz.func27 rfl ZfM ?_;simp (disch:=omega) only [Tryz.f27,go_sem,seval];refine gF ?_ ?_<;>intro h2<;>simp (disch:=omega) only [Sh.out h2,go_sem,seval,↓reduceIte]
 ·grind [smB]
 ·refine cD ?_ ?_<;>intro h3<;>simp (disch:=omega) only [Sh.out h3,go_sem,seval]
  ·have:smB p=false:=by rw [smB,Yd (p:=p.unserved.length<=6) Za,Kn];rfl
   rw [this]
  ·refine Zl [1] (fun q:Nat=> [(3,.p (.int .i64 q))]) (fun _=> [Z9 p]) (fun q=>q<=p.routes.length/\ ∀j,j<q->rtB (nth p.routes j)=true) (fun q=>p.routes.length-q) 0 Zb (Weak.mk ?_) ?_
   ·simp (disch:=omega) only [Z9,go_sem,seval]
   ·rintro q ⟨hq,hin⟩;refine JY ?_;refine cD ?_ ?_<;>intro h4<;>simp (disch:=omega) only [Sh.out h4,go_sem,seval,↓reduceIte]
    ·have hq2:q<p.routes.length:=Za
     obtain ⟨_,_,u1,_,u2,_⟩:=w2 _ (Zo hq2);have hb2:=ZaT hq2;refine gF ?_ ?_<;>intro h5<;>simp (disch:=omega) only [Sh.out h5,go_sem,seval,↓reduceIte]
     ·grind [rtB]
     ·refine ZD ?_ ?_<;>intro h6
      ·rw [hb2 (by rw [rtB,Yd (p:=(nth p.routes q).rests.length<=9) Za,Kn])]
      ·exact ⟨q+1,⟨Za,Zn.2 ⟨hin,by rw [rtB,Zy,Zp,Zp];omega⟩⟩,Za,wk⟩
    ·have hql:q=p.routes.length:=Za
     subst hql
     have hgood:smB p=true:=by
      rw [smB,Zkw hin,UC,Zy,Zp,Zp];omega
     rw [hgood]
structure BegOk (y:Inst) (r:Rte):Prop where
 ord:(ordR r.visits).2=0
 sub: ∀j,(ordS r.visits).testBit j=true->j<y.orders.length/\(nth y.orders j).off=false
 typ:r.typ<(y.types.length:Int)
structure DayOk48 (c:Cas) (l:List Rte):Prop where
 x:FitP c.x 3
 y:FitP c.y 3
 sm:smB c.p=true
 now:0<=c.now/\c.now<=4096
 chk:chkP c.x c.p=0
 err:errR c.x c.p.routes=0
 eq:l=pfxL c.x c.now c.p.routes.length c.p.routes
 beg: ∀r∈l,BegOk c.y r
theorem HV {p:Pln} (h:smB p=true):p.routes.length<=4/\p.unserved.length<=6/\ ∀r∈p.routes,r.visits.length<=8/\r.rests.length<=9:=by
 simp_all [smB,rtB]
theorem Bo {x:Inst} {now:Int} {l:List Rte} {b:Rte} : ∀k,k<=l.length->b∈pfxL x now k l-> ∃r∈l,b=Af x now r/\AQ x r (Xc x r) now≠0
 | 0,_,h=>by simp [pfxL] at h
 | k+1,hk,h=>by
  rw [pfxL,Xr] at h;rcases h with h | h
  ·exact Bo k Za h
  ·split at h
   ·simp at h
   ·rename_i hn;exact ⟨nth l k,Zo Za,by simpa using h,hn⟩
theorem Ek {x:Inst} {now:Int} {r:Rte} (hs:(Xc x r).times.length=r.visits.length):(Af x now r).visits.length<=r.visits.length/\(Af x now r).rests.length<=r.visits.length+1:=by
 grind [BH,Af]
def tA (c:Cas):AM.Obj:= .cells ((jL c).map .p)
theorem CJ {P Q:Prop} (h:Q) (e:Q->P:=by intro h;simp (disch:=omega) only [Q3,go_sem,seval];exact h):P:=e h
theorem jZ (c:Cas) (hw:c.wf 1048576) :
  ACalls Tryz.prog 20 [.p (kD c)] [] fun y H'=> ∃(b fl:Bool) (l:List Rte),(l.length<=8/\ ∀r∈l,Q7 r)/\(b=true->DayOk48 c l)/\y= .tup [.p (.list fl (l.map Z0)),.p (.bool b)]/\H'= []:=by
 obtain ⟨hwx,hwp,hwn,hwy⟩:=hw;have hP:=hwp;obtain ⟨p1,p2,p3,p4⟩:=hP;have fail: ∃(b fl:Bool) (l:List Rte),(l.length<=8/\ ∀r∈l,Q7 r)/\(b=true->DayOk48 c l)/\(V.tup [.p (.list true []),.p (.bool false)])= .tup [.p (.list fl (l.map Z0)),.p (.bool b)]/\([]:List AM.Obj)= []:=⟨false,true,[],⟨Zb,fun r h=>by simp at h⟩,(fun h=>Bool.noConfusion h),rfl,rfl⟩;obtain ⟨b1,hb1⟩: ∃b:Bool,b=true↔FitP c.x 3:=⟨@decide _ (Classical.propDecidable _),@decide_eq_true_iff _ (Classical.propDecidable _)⟩;obtain ⟨b2,hb2⟩: ∃b:Bool,b=true↔FitP c.y 3:=⟨@decide _ (Classical.propDecidable _),@decide_eq_true_iff _ (Classical.propDecidable _)⟩
 refine Zg [] Tryz.func20 rfl ZfI ?_;simp (disch:=omega) only [Tryz.f20,go_sem,seval];refine (FV c.x hwx 3 b1 hb1).use (Zc ?_)
 cases b1 with
 | false =>
  refine CJ ?_;exact ⟨.tup [.p (.list true []),.p (.bool false)],[],wk,fail⟩
 | true =>
  refine BJ ?_;refine (FV c.y hwy 3 b2 hb2).use (Zc ?_)
  cases b2 with
  | false =>
   refine CJ ?_;exact ⟨.tup [.p (.list true []),.p (.bool false)],[],wk,fail⟩
  | true =>
   refine BJ ?_;have fx:=hb1.1 rfl;have fy:=hb2.1 rfl;refine (R0 c.p hwp).use (Zc ?_)
   cases hs:smB c.p with
   | false =>
    refine CJ ?_;exact ⟨.tup [.p (.list true []),.p (.bool false)],[],wk,fail⟩
   | true =>
    refine BJ ?_;obtain ⟨s1,s2,s3⟩:=HV hs;have hx:=fx.2.2.2.2.2.2;have hy:=fy.2.2.2.2.2.2;have hR: ∀r∈c.p.routes,Q7 r:=fun r h=>⟨(p2 r h).2.2.2.2.1,(p2 r h).2.2.1⟩;refine gF ?_ ?_<;>intro h1<;>simp (disch:=omega) only [Sh.out h1,go_sem,seval,↓reduceIte]
    ·exact ⟨.tup [.p (.list true []),.p (.bool false)],[],wk,fail⟩
    ·refine gF ?_ ?_<;>intro h2<;>simp (disch:=omega) only [Sh.out h2,go_sem,seval,↓reduceIte]
     ·exact ⟨.tup [.p (.list true []),.p (.bool false)],[],wk,fail⟩
     ·refine (jP c.x c.p hx p1 p3 hR).use (Zc ?_);refine cD ?_ ?_<;>intro h3<;>simp (disch:=omega) only [Sh.out h3,go_sem,seval,↓reduceIte]
      ·exact ⟨.tup [.p (.list true []),.p (.bool false)],[],wk,fail⟩
      ·have cp:=Bs c.x c.p c.now hx p1 hR;rw [eM,if_neg (show ¬(c.now<0\/4096<c.now) by omega)] at cp
       by_cases he:errR c.x c.p.routes=0
       ·rw [if_pos he] at cp;have hll:=JO (x:=c.x) (now:=c.now) (l:=c.p.routes) c.p.routes.length
        have hLr: ∀b∈pfxL c.x c.now c.p.routes.length c.p.routes,Q7 b:=fun b h=>by
         obtain ⟨r,hr,rfl,_⟩:=Bo _ (Zx _) h;have h0:=IX.1 he r hr;have hs:=(AR hx h0 (hR r hr).1).len;have:=Ek (x:=c.x) (now:=c.now) hs;have:=(s3 r hr).1;exact ⟨Za,Za⟩
        obtain ⟨L,hL⟩: ∃L,L=pfxL c.x c.now c.p.routes.length c.p.routes:=⟨_,rfl⟩;rw [<- hL] at cp hll hLr;refine WV cp (Zc ?_);refine Zl [1,4] (fun k:Nat=> [(6,.p (.int .i64 k))]) (fun _=> [tA c]) (fun k=>k<=L.length/\ ∀j,j<k->BegOk c.y (nth L j)) (fun k=>L.length-k) 0 Zb (Weak.mk ?_) ?_
        ·simp (disch:=omega) only [tA,jL,Zt,Zm,go_sem,seval]
        ·rintro k ⟨hk,hno⟩;simp (disch:=omega) only [tA,jL,Zt,Zm,go_sem,seval];refine cD ?_ ?_<;>intro h4<;>simp (disch:=omega) only [Sh.out h4,go_sem,seval,↓reduceIte]
         ·have hk2:k<L.length:=Za
          have hrk:=hLr _ (Zo hk2);refine WV (Ch (nth L k) hrk.1) (Zc ?_)
          by_cases g1:(ordR (nth L k).visits).2=0
          ·have X9:(nth L k).visits.all Cy=true:=by
            grind [ordR]
           have ho:(ordR (nth L k).visits).1=((ordS (nth L k).visits:Nat):Int):=by rw [ordR,if_pos X9]
           have hlt:=UH (nth L k).visits.length (l:=(nth L k).visits) (Zx _) (fun v hv=>Zu.1 X9 v (by grind));rw [XZ] at hlt
           have hnl:RH c.y<9223372036854775808:=by
            have h1:=BF (fun i=> !(nth c.y.orders i).off) c.y.orders.length;have h2:pw c.y.orders.length<=pw 10:=CF (Bj hy);have h3:pw 10=1024:=rfl;unfold RH;omega
           by_cases g2:((T2 (ordS (nth L k).visits) (RH c.y):Nat):Int)=0
           ·by_cases g3:(c.y.types.length:Int)<=(nth L k).typ
            ·refine Xn ?_;simp (disch:=omega) only [g1,ho,go_sem,seval];refine Zq (Ds c.y (by grind [Bj])) (Zc ?_);simp (disch:=omega) only [g2,g3,go_sem,seval];exact ⟨.tup [.p (.list true []),.p (.bool false)],[],wk,fail⟩
            ·refine Xn ?_;simp (disch:=omega) only [g1,ho,go_sem,seval];refine Zq (Ds c.y (by grind [Bj])) (Zc ?_);simp (disch:=omega) only [g2,g3,go_sem,seval];refine ⟨k+1,⟨Za,Zn.2 ⟨hno,g1,fun j hj=> ?_,Za⟩⟩,Za,wk⟩
             have hz:T2 (ordS (nth L k).visits) (RH c.y)=0:=Za
             have hb:=IS.1 hz j hj
             simp_all [RH,Cn]
           ·refine Xn ?_;simp (disch:=omega) only [g1,ho,go_sem,seval];refine Zq (Ds c.y (by grind [Bj])) (Zc ?_);simp (disch:=omega) only [g2,go_sem,seval];exact ⟨.tup [.p (.list true []),.p (.bool false)],[],wk,fail⟩
          ·refine Xn ?_;simp (disch:=omega) only [g1,go_sem,seval];exact ⟨.tup [.p (.list true []),.p (.bool false)],[],wk,fail⟩
         ·have hkl:k=L.length:=Za
          subst hkl;refine ⟨.tup [.p (.list false (L.map Z0)),.p (.bool true)],[],wk,true,false,L,⟨Za,hLr⟩,fun _=>⟨fx,fy,hs,Za,Za,he,hL,fun r hr=> ?_⟩,rfl,rfl⟩;obtain ⟨j,hj,rfl⟩:=ZW.1 hr
          grind [Zh]
       ·rw [if_neg he] at cp;refine WV cp (Zc ?_);refine cD ?_ ?_<;>intro h5<;>simp (disch:=omega) only [Sh.out h5,go_sem,seval]
        ·exact ⟨.tup [.p (.list true []),.p (.bool false)],[],wk,fail⟩
        ·omega
theorem Za4 {g:FuncId} {args:List V} {A:List Rte->Prop} {B:Bool->List Rte->Prop} {H:List AM.Obj} {K:V->List AM.Obj->Prop} (h:ACalls Tryz.prog g args [] fun y H'=> ∃(b fl:Bool) (l:List Rte),A l/\B b l/\y= .tup [.p (.list fl (l.map Z0)),.p (.bool b)]/\H'= [])
  (k: ∀b fl l,A l->B b l->K (.tup [.p (.list fl (l.map Z0)),.p (.bool b)]) H) (ha:Xe 0 args=true:=by rfl):ACalls Tryz.prog g args H K :=
 (h.behind ha H).mono fun x H' hq=>by
  obtain ⟨y,H1,⟨b,fl,l,h1,h2,rfl,rfl⟩,rfl,rfl⟩:=hq
  grind [AM.shV,AM.shVs]
def WU (s:Sco):Prop:=0<=s.cost/\0<=s.moved/\0<=s.other/\0<=s.work
theorem JR {a b:Sco} (ha:WU a) (hb:WU b):WU (YQ a b):=by
 obtain ⟨a1,a2,a3,a4⟩:=ha;obtain ⟨b1,b2,b3,b4⟩:=hb;exact ⟨by show 0<=a.cost+b.cost;omega,by show 0<=a.moved+b.moved;omega,by show 0<=a.other+b.other;omega,by show 0<=a.work+b.work;omega⟩
theorem J4 {s:Sco} (hs:WU s):(XV s).2=0↔s.cost<=1073741824/\s.moved<16/\s.other<16/\s.work<65536:=by
 obtain ⟨a1,a2,a3,a4⟩:=hs;unfold XV
 grind
theorem gB {s:Sco} (hs:WU s) (h:(XV s).2=0):(XV s).1=((s.cost*16+s.moved)*16+s.other)*65536+s.work:=by
 have h:=(J4 hs).1 h;obtain ⟨a1,a2,a3,a4⟩:=hs
 simp_all [XV,if_neg]
theorem nV {a b:Sco} (ha:WU a) (hb:WU b) (h:(XV (YQ a b)).2=0):(XV a).2=0/\(XV b).2=0/\(XV (YQ a b)).1=(XV a).1+(XV b).1:=by
 have h1:=(J4 (JR ha hb)).1 h;have hv:=gB (JR ha hb) h;have hA:(XV a).2=0:=(J4 ha).2 (by simp only [YQ] at h1;obtain ⟨b1,b2,b3,b4⟩:=hb;omega)
 grind [XV,J4,YQ]
theorem EY {α:Type} {f:α->Sco} : ∀(l:List α) (s:Sco),(∀a∈l,WU (f a))->WU s->(XV (l.foldl (fun s a=>YQ s (f a)) s)).2=0 ->
  (XV s).2=0/\(∀a∈l,(XV (f a)).2=0)/\(XV (l.foldl (fun s a=>YQ s (f a)) s)).1=(XV s).1+(l.map fun a=>(XV (f a)).1).sum
 | [],s,_,_,h=>⟨h,Zb,Zb⟩
 | a::l,s,hf,hs,h=>by
  rw [Vl] at h ⊢;have ha:=hf a Zb;obtain ⟨g1,g2,g3⟩:=EY l (YQ s (f a)) (fun b hb=>hf b (Wj _ hb)) (JR hs ha) h;obtain ⟨k1,k2,k3⟩:=nV hs ha g1
  grind
theorem DF {x:Inst} {l:List Rte} :errR x l=0↔ ∀r∈l,evalE x r=0:=by
 induction l with
 | nil=>simp [errR]
 | cons r l ih =>
  rw [errR]
  grind
def U9 (x:Inst) (l:List Rte):Sco:=l.foldl (fun s r=>YQ s (X2 x r)) zSco
def HW (x:Inst) (s:Sco) (l:List Int):Sco:=l.foldl (fun s i=>YQ s (Yk x i).1) s
def LZ (x:Inst) (p:Pln):Sco:=if chkP x p=0 then HW x (U9 x p.routes) p.unserved else zSco
theorem Vj {x:Inst} {p:Pln} (h:chkP x p=0):(∀r∈p.routes,evalE x r=0)/\ ∀i∈p.unserved,(Yk x i).2=0:=by
 unfold chkP at h
 split at h
 ·omega
 ·rename_i c0;have her:errR x p.routes=0:=XF.1 c0
  split at h
  ·simp at h
  ·rename_i c1
   split at h
   ·simp at h
   ·split at h
    ·simp at h
    ·split at h
     ·simp at h
     ·rename_i c4
      split at h
      ·simp at h
      ·rename_i c5;refine ⟨DF.1 her,fun u hu=> ?_⟩
       have hub:Cp x p.unserved=true:=by grind
       rw [Cp,Zu] at hub;have h1:=hub u hu;simp only [Zy,Zp] at h1
       have hui:u.toNat<x.orders.length:=Za
       have hcu:0<Y2 p.unserved u.toNat:=by
        unfold Y2;have:0<p.unserved.countP fun v=>decide (v=(u.toNat:Int)):=U1.2 ⟨u,hu,by grind⟩;omega
       have h4:JX x p=false:=by grind
       have h5:CB x p=false:=by grind
       have h4:=Yi.1 h4 _ (ZS.2 hui);have h5:=Yi.1 h5 _ (ZS.2 hui)
       simp_all [Yk,if_neg]
theorem TL {x:Inst} {p:Pln} (h:chkP x p=0):errR x p.routes=0/\Cp x p.unserved=true/\Aq x p=false/\K8 x p=false/\JX x p=false/\CB x p=false:=by
 unfold chkP at h
 by_cases c0:errR x p.routes=0
 ·grind
 omega
theorem BX {x:Inst} {p:Pln} (h:chkP x p=0) :
  (∀u∈p.unserved,0<=u/\u<(x.orders.length:Int)) /\
  (∀i:Nat,i<x.orders.length->p.routes.countP (fun r=>hasO r.visits (i:Int))+p.unserved.countP (fun u=>decide (u=(i:Int)))<=1) /\
  (∀i:Nat,i<x.orders.length->(i:Int)∈p.unserved->(nth x.orders i).off=false/\(nth x.orders i).penalty≠ -1) /\
  (∀i:Nat,i<x.orders.length->(nth x.orders i).off=false->1<=p.routes.countP (fun r=>hasO r.visits (i:Int))+p.unserved.countP (fun u=>decide (u=(i:Int)))) /\
  (∀t:Nat,t<x.types.length->((p.routes.countP fun r=>decide (r.typ=(t:Int)):Nat):Int)<=(nth x.types t).count):=by
 obtain ⟨_,h1,h2,h3,h4,h5⟩:=TL h
 have hcu: ∀i:Nat,(i:Int)∈p.unserved->0<Y2 p.unserved i:=fun i hi=>by
  grind [Y2,U1]
 have g2:=Yi.1 h2;have g3:=Yi.1 h3;have g4:=Yi.1 h4;have g5:=Yi.1 h5;refine ⟨fun u hu=> ?_,fun i hi=> ?_,fun i hi hu=> ?_,fun i hi ho=> ?_,fun t ht=> ?_⟩
 ·grind [Cp]
 ·exact Nat.le_of_not_lt fun hlt=>g2 i (ZS.2 hi) (YO (by grind [Fi,Uc,Y2]))
 ·grind
 ·grind [Fi,Uc,Y2]
 grind [AE]
structure St where
 ix:Int
 cov:Int
 used:List Int
 deriving Inhabited,DecidableEq
def KM (s:St):PV:= .agg (.int .i64 s.ix:: .int .i64 s.cov::s.used.map eI)
@[go_sem] theorem ZkD (s:St):KM s= .agg (.int .i64 s.ix:: .int .i64 s.cov::s.used.map eI):=Zk rfl rfl
def StR (s:St):Prop:=s.used.length=6
theorem six {l:List Int} (h:l.length=6): ∃a b c d e f,l= [a,b,c,d,e,f]:=by
 match l,h with
 | [a,b,c,d,e,f],_=>simp
theorem Yt {s:St} (h:StR s): ∃i v a b c d e f,s=⟨i,v,[a,b,c,d,e,f]⟩:=by
 obtain ⟨i,v,u⟩:=s;obtain ⟨a,b,c,d,e,f,rfl⟩:=six h;simp
theorem M9 : KeyE Tryz.prog 204 KM StR:=by
 refine ⟨⟨151,3,Ze,Ze,fun s hs=> ?_,fun s t hs ht=> ?_⟩,fun s t hs ht=> ?_⟩
 ·obtain ⟨i,v,a,b,c,d,e,f,rfl⟩:=Yt hs
  kernel_rfl
 ·obtain ⟨i,v,a,b,c,d,e,f,rfl⟩:=Yt hs;obtain ⟨i',v',a',b',c',d',e',f',rfl⟩:=Yt ht
  have h1:VJ Tryz.prog 9 151 (KM ⟨i,v,[a,b,c,d,e,f]⟩) (KM ⟨i',v',[a',b',c',d',e',f']⟩)=some (decide (i=i')&&(decide (v=v')&&((decide (a=a')&&(decide (b=b')&&(decide (c=c')&&(decide (d=d')&&(decide (e=e')&&(decide (f=f')&&true))))))&&true))):=Ze
  have h2:keq (KM ⟨i,v,[a,b,c,d,e,f]⟩) (KM ⟨i',v',[a',b',c',d',e',f']⟩)=(decide (i=i')&&(decide (v=v')&&((decide (a=a')&&(decide (b=b')&&(decide (c=c')&&(decide (d=d')&&(decide (e=e')&&(decide (f=f')&&true))))))&&true))):=by
   simp_all [keq,KM,Qn,eI]
  show (VJ Tryz.prog 9 151 (KM ⟨i,v,[a,b,c,d,e,f]⟩) (KM ⟨i',v',[a',b',c',d',e',f']⟩)==some (keq (KM ⟨i,v,[a,b,c,d,e,f]⟩) (KM ⟨i',v',[a',b',c',d',e',f']⟩)))=true
  simp_all
 ·obtain ⟨i,v,a,b,c,d,e,f,rfl⟩:=Yt hs;obtain ⟨i',v',a',b',c',d',e',f',rfl⟩:=Yt ht
  simp_all [keq,KM,Qn,eI]
structure Kd where
 typ:Int
 set:Int
 deriving Inhabited,DecidableEq
def SK (k:Kd):PV:= .agg [.int .i64 k.typ,.int .i64 k.set]
theorem bT : KeyE Tryz.prog 265 SK fun _=>True:=by
 refine ⟨⟨267,3,Ze,Ze,fun s _=> ?_,fun s t _ _=> ?_⟩,fun s t _ _=> ?_⟩
 ·kernel_rfl
 ·obtain ⟨a,b⟩:=s;obtain ⟨c,d⟩:=t
  have h1:VJ Tryz.prog 9 267 (SK ⟨a,b⟩) (SK ⟨c,d⟩)=some (decide (a=c)&&(decide (b=d)&&true)):=Ze
  have h2:keq (SK ⟨a,b⟩) (SK ⟨c,d⟩)=(decide (a=c)&&(decide (b=d)&&true)):=by
   grind [keq,SK,Qn]
  show (VJ Tryz.prog 9 267 (SK ⟨a,b⟩) (SK ⟨c,d⟩)==some (keq (SK ⟨a,b⟩) (SK ⟨c,d⟩)))=true
  simp_all
 ·obtain ⟨a,b⟩:=s;obtain ⟨c,d⟩:=t;simp [keq,SK,Qn]
def Aj (n:Nat) (m cov:Int):Nat->Nat->Nat
 | 0,k=>k
 | f+1,k=>if k<n/\(sHas m k=false\/sHas cov k=true) then Aj n m cov f (k+1) else k
theorem Cl {n:Nat} {m cov:Int} {k:Nat} (h: ¬(k<n/\(sHas m k=false\/sHas cov k=true))) (f:Nat):Aj n m cov f k=k:=by
 cases f with
 | zero=>rfl
 | succ f=>rw [Aj,if_neg h]
theorem Dg {n:Nat} {m cov:Int} {k:Nat} (h:k<n) (hc:sHas m k=false\/sHas cov k=true):Aj n m cov (n-k) k=Aj n m cov (n-(k+1)) (k+1):=by
 rw [show n-k=(n-(k+1))+1 by omega,Aj,if_pos ⟨h,hc⟩]
def WH (n:Nat) (m:Int) (s:St):St:= { s with ix:=(Aj n m s.cov (n-s.ix.toNat) s.ix.toNat:Nat) }
def W9 (x:Inst) (f g:PV) (m:Int):AM.Obj:= .cells [.p (.list x.net.places_c (x.net.places.map eS)),.p (.list x.net.arcs_c (x.net.arcs.map Wp)),.p (.list x.types_c (x.types.map Wq)),.p (.list x.orders_c (x.orders.map eOrd)),.p (.list x.apart_c (x.apart.map eP)),.p (.list x.before_c (x.before.map eP)),.p f,.p g,.mp 0,.p (.int .i64 m)]
def Yz (x:Inst) (f g:PV) (m:Int) (l:List (St×Int)):List AM.Obj:= [.map (l.map (IV KM)),W9 x f g m]
def Am (s:St):AM.Obj:= .cells (.p (.int .i64 s.ix):: .p (.int .i64 s.cov)::(s.used.map eI).map .p)
theorem EI (x:Inst) (f g:PV) (m:Int) (l:List (St×Int)) (s:St) (hs:StR s) (h0:0<=s.ix) (hn:x.orders.length<=10) (h1:s.ix<=10) :
  ACalls Tryz.prog 100 [.ptr 1 0,.p (KM s)] (Yz x f g m l) fun y H'=>y= .p (KM (WH x.orders.length m s))/\H'=Yz x f g m l:=by
 obtain ⟨i,v,a,b,c,d,e,u,rfl⟩:=Yt hs;obtain ⟨i,rfl⟩: ∃k:Nat,i=k:=⟨i.toNat,by grind⟩;simp only at h0 h1;generalize hT:KM (WH x.orders.length m ⟨i,v,[a,b,c,d,e,u]⟩)=T;refine Zg [] Tryz.func100 rfl uL ?_;simp (disch:=omega) only [Tryz.f100,Yz,W9,Zt,Zm,go_sem,seval];refine Zl [0,3,4] (fun k:Nat=> []) (fun k=>Yz x f g m l++ [Am ⟨k,v,[a,b,c,d,e,u]⟩,.cells (List.replicate 8 (.p (.int .i64 0)))]) (fun k=>k<=10/\Aj x.orders.length m v (x.orders.length-k) k=Aj x.orders.length m v (x.orders.length-i) i) (fun k=>x.orders.length-k) i ⟨Za,rfl⟩ (Weak.mk ?_) ?_
 ·simp (disch:=omega) only [Yz,W9,Am,Zt,Zm,List.replicate,go_sem,seval,↓reduceIte]
 ·rintro k ⟨hk,hq⟩
  have fin: ∀q:Nat,q=Aj x.orders.length m v (x.orders.length-i) i->KM ⟨q,v,[a,b,c,d,e,u]⟩=T:=fun q hq=>by grind [WH]
  simp (disch:=omega) only [Yz,W9,Am,Zt,Zm,List.replicate,go_sem,seval];refine Xn (Zc ?_);refine gT ?_ ?_<;>intro h5<;>simp (disch:=omega) only [Sh.out h5,go_sem,seval,↓reduceIte]
  ·have hk2:k<x.orders.length:=Za
   refine Zq (bF m k) (Zc ?_)
   cases hm:sHas m k with
   | false =>
    refine CJ ?_;exact ⟨k+1,⟨Za,by grind [Dg]⟩,Za,wk⟩
   | true =>
    refine BJ ?_;refine Zq (bF v k) (Zc ?_)
    cases hv:sHas v k with
    | true =>
     refine Zc ?_;exact ⟨k+1,⟨Za,by grind [Dg]⟩,Za,wk⟩
    | false =>
     refine Zc ?_;exact ⟨.p (KM ⟨k,v,[a,b,c,d,e,u]⟩),_,Weak.mk (by simp (disch:=omega) only [Zt,Zm,go_sem,seval]),by grind [Cl],rfl⟩
  ·exact ⟨.p (KM ⟨k,v,[a,b,c,d,e,u]⟩),_,Weak.mk (by simp (disch:=omega) only [Zt,Zm,go_sem,seval]),by grind [Cl],rfl⟩
def B8 (n:Nat) (m:Int) (s:St):St:=WH n m { s with ix:=s.ix+1 }
theorem An {P Q:Prop} (h:Q) (e:Q->P:=by intro h;simp (disch:=omega) only [Yz,W9,Zt,Zm,ZQ,ZG,go_sem,seval];exact h):P:=e h
theorem GJ (x:Inst) (f g:PV) (m:Int) (l:List (St×Int)) (s:St) (hs:StR s) (h0:0<=s.ix) (hn:x.orders.length<=10) (h1:s.ix<=9) :
  ACalls Tryz.prog 155 [.ptr 1 0,.p (KM s)] (Yz x f g m l) fun y H'=>y= .p (KM (B8 x.orders.length m s))/\H'=Yz x f g m l:=by
 have hc:=EI x f g m l { s with ix:=s.ix+1 } hs (by grind) hn (by grind);obtain ⟨i,v,a,b,c,d,e,u,rfl⟩:=Yt hs;obtain ⟨q,hq⟩: ∃q:Int,B8 x.orders.length m ⟨i,v,[a,b,c,d,e,u]⟩=⟨q,v,[a,b,c,d,e,u]⟩:=⟨_,rfl⟩;have hq':WH x.orders.length m ⟨i+1,v,[a,b,c,d,e,u]⟩=⟨q,v,[a,b,c,d,e,u]⟩:=hq;rw [hq];simp only at h0 h1 hc;rw [hq'] at hc;refine Zg [] Tryz.func155 rfl vU ?_;simp (disch:=omega) only [Tryz.f155,Yz,W9,Zt,Zm,go_sem,seval];refine hc.useP (L:= [_,_]) (by rfl) ?_ (by rfl) (by rfl);refine An ?_
 exact we
def BM (n:Nat) (m:Int) (s:St) (T:Nat) (C S:Nat):St:=WH n m ⟨s.ix,((C|||S:Nat):Int),s.used.set T (nth s.used T+1)⟩
def CN (x:Inst) (s:St) (T:Nat) (C S:Nat):Bool:=decide (C&&&S=0)&&decide (nth s.used T<(nth x.types T).count)
theorem gE (x:Inst) (f g:PV) (m:Int) (l:List (St×Int)) (s:St) (c:Col) (hs:StR s) (h0:0<=s.ix) (hn:x.orders.length<=10) (h1:s.ix<=10) (C S T:Nat) (hC:s.cov=C) (hS:c.set=S) (hT:c.typ=T) (hC2:C<1024) (hS2:S<1024) (hT2:T<x.types.length) (h6:x.types.length<=6)
  (hu: ∀j,j<6->0<=nth s.used j/\nth s.used j<=1048576) :
  ACalls Tryz.prog 154 [.ptr 1 0,.p (KM s),.p (X5 c)] (Yz x f g m l) fun y H'=>y=(if CN x s T C S=true then .tup [.p (KM (BM x.orders.length m s T C S)),.p (.bool true)] else .tup [.p (KM s),.p (.bool false)])/\H'=Yz x f g m l:=by
 have hor:C|||S<1024:=JD (n:=10) hC2 hS2;have hc:=EI x f g m l ⟨s.ix,((C|||S:Nat):Int),s.used.set T (nth s.used T+1)⟩ (by grind [StR]) h0 hn h1;obtain ⟨i,v,a0,a1,a2,a3,a4,a5,rfl⟩:=Yt hs
 have hT3:T=0\/T=1\/T=2\/T=3\/T=4\/T=5:=Za
 have u0:=hu 0 Za;have u1:=hu 1 Za;have u2:=hu 2 Za;have u3:=hu 3 Za;have u4:=hu 4 Za;have u5:=hu 5 Za;simp only [nth,List.getD_cons_zero,List.getD_cons_succ] at u0 u1 u2 u3 u4 u5;simp only at hC h0 h1;obtain ⟨ct,cs,cp,cr⟩:=c;simp only at hS hT;subst hC;subst hS;subst hT;obtain ⟨R,hR⟩: ∃R:V,R=(if CN x ⟨i,(C:Nat),[a0,a1,a2,a3,a4,a5]⟩ T C S=true then .tup [.p (KM (BM x.orders.length m ⟨i,(C:Nat),[a0,a1,a2,a3,a4,a5]⟩ T C S)),.p (.bool true)] else .tup [.p (KM ⟨i,(C:Nat),[a0,a1,a2,a3,a4,a5]⟩),.p (.bool false)]):=⟨_,rfl⟩
 rw [<- hR];obtain ⟨q,hq⟩: ∃q:Int,WH x.orders.length m ⟨i,((C|||S:Nat):Int),[a0,a1,a2,a3,a4,a5].set T (nth [a0,a1,a2,a3,a4,a5] T+1)⟩=⟨q,((C|||S:Nat):Int),[a0,a1,a2,a3,a4,a5].set T (nth [a0,a1,a2,a3,a4,a5] T+1)⟩:=⟨_,rfl⟩;simp only at hc;rw [hq] at hc;have hw:BM x.orders.length m ⟨i,(C:Nat),[a0,a1,a2,a3,a4,a5]⟩ T C S=⟨q,((C|||S:Nat):Int),[a0,a1,a2,a3,a4,a5].set T (nth [a0,a1,a2,a3,a4,a5] T+1)⟩:=hq;rw [hw] at hR;refine Zg [] Tryz.func154 rfl vT ?_;rcases hT3 with rfl | rfl | rfl | rfl | rfl | rfl
 all_goals
  simp (disch:=omega) only [Tryz.f154,Yz,W9,Zt,Zm,go_sem,seval,↓reduceIte];refine Xn ?_;simp (disch:=omega) only [go_sem,seval,↓reduceIte];refine gF ?_ ?_<;>intro h5<;>simp (disch:=omega) only [Sh.out h5,go_sem,seval,↓reduceIte]
  ·have hno:(decide (C&&&S=0))=false:=Yd Za;exact ⟨.tup [.p (KM ⟨i,(C:Nat),[a0,a1,a2,a3,a4,a5]⟩),.p (.bool false)],_,Weak.mk (by simp (disch:=omega) only [Zt,Zm,go_sem,seval]),by rw [hR,if_neg (by rw [CN,hno];simp)],rfl⟩
  ·have hcs:C&&&S=0:=Za
   refine cD ?_ ?_<;>intro h7<;>simp (disch:=omega) only [Sh.out h7,go_sem,seval,↓reduceIte]
   ·exact ⟨.tup [.p (KM ⟨i,(C:Nat),[a0,a1,a2,a3,a4,a5]⟩),.p (.bool false)],_,Weak.mk (by simp (disch:=omega) only [Zt,Zm,go_sem,seval]),by rw [hR,if_neg (by rw [CN,YO hcs,Wl];exact fun h=>Int.not_lt.2 h7 (A9 h))],rfl⟩
   ·rw [if_pos (by rw [CN,YO hcs,Wl];exact YO (Int.not_le.1 h7))] at hR;refine hc.useP (L:= [_,_,_]) (by rfl) ?_ (by rfl) (by rfl);simp (disch:=omega) only [Yz,W9,Zt,Zm,ZQ,ZG,Z7,Xp,go_sem,seval,↓reduceIte];exact ⟨R,_,Weak.mk (by rw [hR];simp (disch:=omega) only [nth,List.getD_cons_zero,List.getD_cons_succ,Z7,Xp,Zt,Zm,go_sem,seval]),rfl,rfl⟩
def VA (o p r:Int):Int:=if 0<=r/\(o<0\/p+r<o) then p+r else o
theorem IE (o p r:Int) (hp: -4611686018427387904<=p/\p<=4611686018427387904) (hr: -4611686018427387904<r/\r<4611686018427387904) :
  ACalls Tryz.prog 153 [.p (.int .i64 p),.p (.int .i64 r),.ptr 0 0] [.cells [.p (.int .i64 o)]] fun y H'=>y= .tup []/\H'= [.cells [.p (.int .i64 (VA o p r))]]:=by
 obtain ⟨T,hT⟩: ∃T,T=VA o p r:=⟨_,rfl⟩;rw [<- hT];unfold VA at hT;refine Zg [] Tryz.func153 rfl vS ?_;simp (disch:=omega) only [Tryz.f153,go_sem,seval];refine gT ?_ ?_<;>intro h1<;>simp (disch:=omega) only [Sh.out h1,go_sem,seval,↓reduceIte]
 ·refine gF ?_ ?_<;>intro h2<;>simp (disch:=omega) only [Sh.out h2,go_sem,seval,↓reduceIte]
  ·rw [if_pos ⟨h1,.inl h2⟩] at hT;subst hT;exact we
  ·refine cD ?_ ?_<;>intro h3<;>simp (disch:=omega) only [Sh.out h3,go_sem,seval,↓reduceIte]
   ·rw [if_pos ⟨h1,.inr h3⟩] at hT;subst hT;exact we
   ·rw [if_neg Za] at hT;subst hT;exact we
 ·rw [if_neg Za] at hT;subst hT;exact we
theorem BE {n:Nat} {m cov:Int} : ∀(f k:Nat),k<=Aj n m cov f k
 | 0,k=>Zx _
 | f+1,k=>by
  rw [Aj]
  split
  ·have:=BE (n:=n) (m:=m) (cov:=cov) f (k+1);omega
  ·omega
theorem O8 {n:Nat} {m cov:Int} : ∀(f k:Nat),k<=n->Aj n m cov f k<=n
 | 0,k,h=>h
 | f+1,k,h=>by
  rw [Aj]
  split
  ·rename_i hc;exact O8 f (k+1) Za
  ·exact h
theorem Sq {n:Nat} {m cov:Int} {k:Nat} (h:k<n) (hb:sHas cov k=true):k+1<=Aj n m cov (n-k) k:=by
 grind [Dg,BE]
theorem Eb {l:List Int} {i j:Nat} {a:Int} (h:i<l.length):nth (l.set i a) j=if i=j then a else nth l j:=by
 grind [nth]
structure StV (n:Nat) (s:St):Prop where
 len:StR s
 ix:0<=s.ix/\s.ix<=n
 cov: ∃C:Nat,s.cov=C/\C<1024
 used: ∀j,j<6->0<=nth s.used j/\nth s.used j<=1048576
theorem NN {n:Nat} {m:Int} {s:St} (h:StV n s):StV n (WH n m s)/\s.ix<=(WH n m s).ix:=by
 obtain ⟨h1,h2,h3,h4⟩:=h;have a:=BE (n:=n) (m:=m) (cov:=s.cov) (n-s.ix.toNat) s.ix.toNat;have b:=O8 (n:=n) (m:=m) (cov:=s.cov) (n-s.ix.toNat) s.ix.toNat Za;exact ⟨⟨h1,by grind [WH],h3,h4⟩,by grind [WH]⟩
theorem Hy {n:Nat} {m:Int} {s:St} (h:StV n s) (hi:s.ix<n):StV n (B8 n m s)/\s.ix<(B8 n m s).ix:=by
 have h':StV n { s with ix:=s.ix+1 } :=⟨h.len,by have:=h.ix;grind,h.cov,h.used⟩
 grind [NN,B8]
theorem mV {C S k:Nat} (h:sHas (S:Int) k=true):sHas ((C|||S:Nat):Int) k=true:=by
 have key: ∀N:Nat,sHas (N:Int) k=true↔k<=62/\N.testBit k=true:=fun N=>by
  simp only [sHas,Zy,Zp,XP]
  grind
 grind
theorem oB {n:Nat} {m:Int} {s:St} {T C S:Nat} (h:StV n s) (hi:s.ix<n) (hC:C<1024) (hS:S<1024) (hb:sHas (S:Int) s.ix=true) (hT:T<6) (hu:nth s.used T<1048576):StV n (BM n m s T C S)/\s.ix<(BM n m s T C S).ix:=by
 have hor:C|||S<1024:=JD (n:=10) hC hS;have hl:s.used.length=6:=h.len
 have h':StV n ⟨s.ix,((C|||S:Nat):Int),s.used.set T (nth s.used T+1)⟩:=by
  refine ⟨by grind [StR],h.ix,⟨_,rfl,hor⟩,fun j hj=> ?_⟩;simp only;rw [Eb Za]
  split
  ·have:=h.used T hT;omega
  ·exact h.used j hj
 grind [NN,Sq,mV,BM,WH]
def Vq (x:Inst) (s:St) (c:Col):Bool:=CN x s c.typ.toNat s.cov.toNat c.set.toNat
def W7 (n:Nat) (m:Int) (s:St) (c:Col):St:=BM n m s c.typ.toNat s.cov.toNat c.set.toNat
def YJ (n:Nat) (m:Int) (x:Inst) (fst:List (List Col)) (sk:List Int):Nat->St->Int
 | 0,_=>0
 | d+1,s=>if (n:Int)<=s.ix then 0 else
  let o:=(nth fst s.ix.toNat).foldl (fun o c=>if Vq x s c=true then VA o c.price (YJ n m x fst sk d (W7 n m s c)) else o) (-1)
  if 0<=nth sk s.ix.toNat then VA o (nth sk s.ix.toNat) (YJ n m x fst sk d (B8 n m s)) else o
structure ChOk (n:Nat) (x:Inst) (fst:List (List Col)) (sk:List Int):Prop where
 col: ∀i,i<n-> ∀c∈nth fst i,(0<=c.typ/\c.typ<x.types.length)/\(∃S:Nat,c.set=S/\S<1024)/\sHas c.set i=true/\0<=c.price/\c.price<=18014398509481984
 typ:x.types.length<=6/\ ∀t,t<6->(nth x.types t).count<=1048576
 skp: ∀i,i<n-> -1<=nth sk i/\nth sk i<=18014398509481984
theorem Dk {n:Nat} {m:Int} {x:Inst} {fst:List (List Col)} {sk:List Int} (hc:ChOk n x fst sk) {s:St} (h:StV n s) (hi:s.ix<n) {c:Col} (hm:c∈nth fst s.ix.toNat) (hy:Vq x s c=true):StV n (W7 n m s c)/\s.ix<(W7 n m s c).ix:=by
 obtain ⟨⟨t0,t1⟩,⟨S,hS,hS2⟩,hb,_⟩:=hc.col _ (by have:=h.ix;omega) c hm;obtain ⟨C,hC,hC2⟩:=h.cov;have ht:=hc.typ.1;have hcnt:=hc.typ.2 c.typ.toNat Za;simp only [Vq,CN,Zy,Zp] at hy;have hi0:=h.ix;rw [show ((s.ix.toNat:Nat):Int)=s.ix by omega] at hb;exact oB h hi Za Za (by grind) Za Za
theorem Ab {α β:Type} {f g:β->α->β} : ∀ {l:List α} {b:β},(∀a∈l,∀b,f b a=g b a)->l.foldl f b=l.foldl g b
 | [],_,_=>rfl
 | a::l,b,h=>by
  rw [Vl,Vl,h a Zb b];exact Ab fun a ha=>h a (Wj _ ha)
theorem Qm {n:Nat} {m:Int} {x:Inst} {fst:List (List Col)} {sk:List Int} (hc:ChOk n x fst sk): ∀(d d':Nat) (s:St),StV n s->(n:Int)-s.ix<d->(n:Int)-s.ix<d'->YJ n m x fst sk d s=YJ n m x fst sk d' s
 | 0,_,s,h,h1,_=>by have:=h.ix;omega
 | _,0,s,h,_,h1=>by have:=h.ix;omega
 | d+1,d'+1,s,h,h1,h2=>by
  rw [YJ,YJ]
  split
  ·rfl
  ·rename_i hi
   have e1:(nth fst s.ix.toNat).foldl (fun o c=>if Vq x s c=true then VA o c.price (YJ n m x fst sk d (W7 n m s c)) else o) (-1)=(nth fst s.ix.toNat).foldl (fun o c=>if Vq x s c=true then VA o c.price (YJ n m x fst sk d' (W7 n m s c)) else o) (-1):=Ab fun c hm o=>by
    by_cases hy:Vq x s c=true
    ·obtain ⟨v1,v2⟩:=Dk (m:=m) hc h Za hm hy;rw [if_pos hy,if_pos hy,Qm hc d d' _ v1 Za Za]
    grind
   obtain ⟨v1,v2⟩:=Hy (m:=m) h Za;rw [Qm hc d d' _ v1 Za Za];simp only [e1]
theorem ID {o p r B:Int} (h1: -1<=o/\o<=B) (h2:0<=p) (h3:p+r<=B): -1<=VA o p r/\VA o p r<=B:=by
 grind [VA]
theorem F0 {α β:Type} {f:β->α->β} {R:β->Prop} : ∀ {l:List α} {b:β},R b->(∀a∈l,∀b,R b->R (f b a))->R (l.foldl f b)
 | [],_,h,_=>h
 | a::l,b,h,hf=>by
  rw [Vl];exact F0 (hf a Zb b h) fun a ha=>hf a (Wj _ ha)
theorem Ul {n:Nat} {m:Int} {x:Inst} {fst:List (List Col)} {sk:List Int} (hc:ChOk n x fst sk): ∀(d:Nat) (s:St),StV n s-> -1<=YJ n m x fst sk d s/\YJ n m x fst sk d s<=(d:Int)*18014398509481984
 | 0,s,h=>by simp [YJ]
 | d+1,s,h=>by
  rw [YJ]
  split
  ·omega
  ·rename_i hi;have i0:=h.ix
   have e1: -1<=(nth fst s.ix.toNat).foldl (fun o c=>if Vq x s c=true then VA o c.price (YJ n m x fst sk d (W7 n m s c)) else o) (-1)/\(nth fst s.ix.toNat).foldl (fun o c=>if Vq x s c=true then VA o c.price (YJ n m x fst sk d (W7 n m s c)) else o) (-1)<=((d+1:Nat):Int)*18014398509481984:=by
    refine F0 (R:=fun o:Int=> -1<=o/\o<=((d+1:Nat):Int)*18014398509481984) Za fun c hm o ho=> ?_
    split
    ·rename_i hy;obtain ⟨v1,v2⟩:=Dk (m:=m) hc h Za hm hy;have:=Ul (m:=m) hc d _ v1;have:=(hc.col _ Za c hm).2.2.2;exact ID ho Za Za
    ·exact ho
   have hs:=hc.skp s.ix.toNat Za;obtain ⟨v1,v2⟩:=Hy (m:=m) h Za;have:=Ul (m:=m) hc d _ v1;simp only
   split
   ·exact ID e1 Za Za
   ·exact e1
def YT (l:List Col):PV:= .list false (l.map X5)
@[go_sem] theorem Zfo (l:List Col):YT l= .list false (l.map X5):=Zk rfl rfl
def P9 (c:Col):AM.Obj:= .cells [.p (.int .i64 c.typ),.p (.int .i64 c.set),.p (.int .i64 c.price),.p (.int .i64 c.route.typ),.p (.int .i64 c.route.start),.p (.list c.route.rests_c (c.route.rests.map eB)),.p (.list c.route.visits_c (c.route.visits.map ZX))]
def rD (n:Nat) (m:Int) (x:Inst) (fst:List (List Col)) (sk:List Int) (l:List (St×Int)):Prop:= ∀p∈l,StV n p.1/\p.2=YJ n m x fst sk 20 p.1
theorem EN {P Q:Prop} (h:Q) (e:Q->P:=by intro h;simp (disch:=omega) only [Yz,W9,Am,Zt,Zm,ZQ,ZG,go_sem,seval];exact h):P:=e h
theorem CW (x:Inst) (fst:List (List Col)) (sk:List Int) (fc sc:Bool) (m:Int) (hn:x.orders.length<=10) (hf:fst.length=x.orders.length) (hs:sk.length=x.orders.length) (hc:ChOk x.orders.length x fst sk) (hcl: ∀r∈fst,r.length<=1048576) :
  ∀(d:Nat) (s:St) (l:List (St×Int)),d<=20->StV x.orders.length s->(x.orders.length:Int)-s.ix<d->rD x.orders.length m x fst sk l ->
   ACalls Tryz.prog 101 [.ptr 1 0,.p (KM s)] (Yz x (.list fc (fst.map YT)) (.list sc (sk.map eI)) m l) fun y H'=> ∃l',rD x.orders.length m x fst sk l'/\y= .p (.int .i64 (YJ x.orders.length m x fst sk 20 s))/\H'=Yz x (.list fc (fst.map YT)) (.list sc (sk.map eI)) m l'
 | 0,s,l,_,hv,hd,_=>by have:=hv.ix;omega
 | d+1,s,l,hd0,hv,hd,hl=>by
  have ih:=CW x fst sk fc sc m hn hf hs hc hcl d;have hlR: ∀p∈l,StR p.1:=fun p hp=>(hl p hp).1.len;obtain ⟨i,v,a0,a1,a2,a3,a4,a5,rfl⟩:=Yt hv.len;have hi:=hv.ix;simp only at hi hd;obtain ⟨i,rfl⟩: ∃k:Nat,i=k:=⟨i.toNat,Za⟩;obtain ⟨T,hT⟩: ∃T,T=YJ x.orders.length m x fst sk 20 ⟨i,v,[a0,a1,a2,a3,a4,a5]⟩:=⟨_,rfl⟩;rw [<- hT];refine Zg [] Tryz.func101 rfl uM ?_;simp (disch:=omega) only [Tryz.f101,Yz,W9,Zt,Zm,go_sem,seval];refine Xn ?_;refine Zc ?_;refine cD ?_ ?_<;>intro h1<;>simp (disch:=omega) only [Sh.out h1,go_sem,seval]
  ·rw [YJ,if_pos Za] at hT;subst hT;exact ⟨_,_,wk,l,hl,rfl,rfl⟩
  ·refine Xn (Zc ?_);refine aC (FF (k:=(⟨i,v,[a0,a1,a2,a3,a4,a5]⟩:St)) M9 hlR hv.len (by rfl)) (Zc ?_)
   cases hq:mq l (⟨i,v,[a0,a1,a2,a3,a4,a5]⟩:St) with
   | some w =>
    obtain ⟨_,hw⟩:=hl _ (Zao hq);simp only at hw;rw [<- hw] at hT;subst hT;simp (disch:=omega) only [Q0,QT,go_sem,seval];exact ⟨_,_,wk,l,hl,rfl,rfl⟩
   | none =>
    have hi2:i<fst.length:=Za
    have hi3:i<sk.length:=Za
    have hrl:=hcl _ (ZH hi2);simp (disch:=omega) only [Km,Option.getD_none,go_sem,seval];refine Xn (Zc ?_)
    let F:Int->Col->Int:=fun o c=>if Vq x ⟨i,v,[a0,a1,a2,a3,a4,a5]⟩ c=true then VA o c.price (YJ x.orders.length m x fst sk 19 (W7 x.orders.length m ⟨i,v,[a0,a1,a2,a3,a4,a5]⟩ c)) else o
    refine Zl [0,3,7,8,42,43] (fun q:Nat×List (St×Int)=> [(44,.p (.int .i64 q.1))]) (fun q=>Yz x (.list fc (fst.map YT)) (.list sc (sk.map eI)) m q.2++ [Am ⟨i,v,[a0,a1,a2,a3,a4,a5]⟩,.cells [.p (.int .i64 (((nth fst i).take q.1).foldl F (-1)))]]) (fun q=>q.1<=(nth fst i).length/\rD x.orders.length m x fst sk q.2) (fun q=>(nth fst i).length-q.1) (0,l) ⟨Zb,hl⟩ (Weak.mk ?_) ?_
    ·simp (disch:=omega) only [Yz,W9,Am,Zt,Zm,ZQ,ZG,Y6,UB,go_sem,seval,↓reduceIte]
    ·rintro ⟨k,l1⟩ ⟨hk,hl1⟩;simp only at hk hl1;have hl1R: ∀p∈l1,StR p.1:=fun p hp=>(hl1 p hp).1.len;generalize hacc:((nth fst i).take k).foldl F (-1)=acc;refine EN ?_;refine cD ?_ ?_<;>intro h2<;>simp (disch:=omega) only [Sh.out h2,go_sem,seval,↓reduceIte]
     ·have hk2:k<(nth fst i).length:=Za
      have hm:=ZH hk2
      have hs1:((nth fst i).take (k+1)).foldl F (-1)=F acc (nth (nth fst i) k):=by
       grind [Xw,Zh]
      obtain ⟨⟨t0,t1⟩,⟨S,hS,hS2⟩,hb,hp0,hp1⟩:=hc.col i Za _ hm;obtain ⟨C,hC,hC2⟩:=hv.cov;simp only at hC;have h6:=hc.typ.1;obtain ⟨tt,htt⟩: ∃tt:Nat,(nth (nth fst i) k).typ=tt:=⟨(nth (nth fst i) k).typ.toNat,Za⟩;have cw:=gE x (.list fc (fst.map YT)) (.list sc (sk.map eI)) m l1 ⟨i,v,[a0,a1,a2,a3,a4,a5]⟩ (nth (nth fst i) k) hv.len Zb hn (by grind) C S tt hC hS htt hC2 hS2 Za h6 hv.used
      have hmay:Vq x ⟨i,v,[a0,a1,a2,a3,a4,a5]⟩ (nth (nth fst i) k)=CN x ⟨i,v,[a0,a1,a2,a3,a4,a5]⟩ tt C S:=by grind [Vq,XP]
      have hwc:W7 x.orders.length m ⟨i,v,[a0,a1,a2,a3,a4,a5]⟩ (nth (nth fst i) k)=BM x.orders.length m ⟨i,v,[a0,a1,a2,a3,a4,a5]⟩ tt C S:=by grind [W7]
      by_cases hy:CN x ⟨i,v,[a0,a1,a2,a3,a4,a5]⟩ tt C S=true
      ·obtain ⟨v1,v2⟩:=Dk (m:=m) hc hv (by grind) (by simpa using hm) (by grind);rw [hwc] at v1 v2;obtain ⟨j,w,b0,b1,b2,b3,b4,b5,hw⟩:=Yt v1.len;rw [if_pos hy,hw] at cw;refine cw.useP (L:= [_,_,_]) (by rfl) ?_ (by rfl) (by rfl);refine An ?_;refine K3 [5] [1,2] [4] 6 mixed Ze Ze Ze Ze Zb (Zc ?_);refine ⟨fun q hq p hp=> ?_,?_⟩
       ·simp only [XR,Kp,or_false] at hq;rcases hq with rfl | rfl
        ·obtain rfl:10=p:=Uk hp;exact V4 (by decide)
        ·obtain rfl:57=p:=Uk hp;exact V4 (by decide)
       ·have c3:=((ih ⟨j,w,[b0,b1,b2,b3,b4,b5]⟩ l1 Za (hw ▸ v1) (by grind) hl1).mono (fun y H' hq=>(⟨hq,by obtain ⟨l',_,_,rfl⟩:=hq;rfl⟩:_/\H'.length=(Yz x (.list fc (fst.map YT)) (.list sc (sk.map eI)) m l1).length))).front (by rfl) (by rfl) [Am ⟨i,v,[a0,a1,a2,a3,a4,a5]⟩,.cells [.p (.int .i64 acc)],P9 (nth (nth fst i) k),Am ⟨j,w,[b0,b1,b2,b3,b4,b5]⟩];refine F9 5 _ Ze (by refine Zc ?_;exact c3) ?_;rintro y H' ⟨H1,⟨l2,hl2,rfl,rfl⟩,rfl⟩;refine ⟨fun k hk=>by simp at hk;subst hk;rfl,OL ?_⟩;simp (disch:=omega) only [Yz,W9,Am,P9,Zt,Zm,ZQ,ZG,go_sem,seval]
        have hrg:=Ul (m:=m) hc 20 _ v1;rw [hw] at hrg;have c4:=(((IE acc (nth (nth fst i) k).price (YJ x.orders.length m x fst sk 20 ⟨j,w,[b0,b1,b2,b3,b4,b5]⟩) Za Za).back [.map (l2.map (IV KM)),W9 x (.list fc (fst.map YT)) (.list sc (sk.map eI)) m,Am ⟨i,v,[a0,a1,a2,a3,a4,a5]⟩] (by rfl)).mono (fun y H' hq=>(⟨hq,by grind⟩:_/\H'.length=4))).front (by rfl) (by rfl) [P9 (nth (nth fst i) k),Am ⟨j,w,[b0,b1,b2,b3,b4,b5]⟩];refine ACalls.mono c4 ?_;rintro y H' ⟨H1,⟨y1,H2,⟨rfl,rfl⟩,rfl,rfl⟩,rfl⟩;simp (disch:=omega) only [W9,Am,P9,Zt,Zm,ZQ,ZG,shO,shVs,shV,go_sem,seval]
        have hF:F acc (nth (nth fst i) k)=VA acc (nth (nth fst i) k).price (YJ x.orders.length m x fst sk 20 ⟨j,w,[b0,b1,b2,b3,b4,b5]⟩):=by
         show (if _ then _ else _)=_
         rw [if_pos (by grind),hwc,Qm hc 19 20 _ v1 (by grind) (by grind),hw]
        exact ⟨(k+1,l2),⟨Za,hl2⟩,Za,Weak.mk (by simp (disch:=omega) only [hs1,hF,go_sem,seval])⟩
      ·rw [if_neg hy] at cw;refine cw.useP (L:= [_,_,_]) (by rfl) ?_ (by rfl) (by rfl);refine An ?_;have hF:F acc (nth (nth fst i) k)=acc:=if_neg (by grind);exact ⟨(k+1,l1),⟨Za,hl1⟩,Za,Weak.mk (by simp (disch:=omega) only [hs1,hF,go_sem,seval])⟩
     ·have hkl:k=(nth fst i).length:=Za
      subst hkl;rw [XZ] at hacc
      have hTe:T=if 0<=nth sk i then VA acc (nth sk i) (YJ x.orders.length m x fst sk 19 (B8 x.orders.length m ⟨i,v,[a0,a1,a2,a3,a4,a5]⟩)) else acc:=by
       rw [hT,show (20:Nat)=19+1 from rfl,YJ,if_neg Za,<- hacc]
       rfl
      refine Xn (Zc ?_);refine cD ?_ ?_<;>intro h3<;>simp (disch:=omega) only [Sh.out h3,go_sem,seval,↓reduceIte]
      ·have cn:=GJ x (.list fc (fst.map YT)) (.list sc (sk.map eI)) m l1 ⟨i,v,[a0,a1,a2,a3,a4,a5]⟩ hv.len Zb hn (by grind);obtain ⟨v1,v2⟩:=Hy (m:=m) hv (by grind);obtain ⟨j,w,b0,b1,b2,b3,b4,b5,hw⟩:=Yt v1.len;have hsk:=hc.skp i Za;have hrg:=Ul (m:=m) hc 20 _ v1;rw [hw] at cn v1 v2 hrg;simp only at v2;refine cn.useP (L:= [_,_]) (by rfl) ?_ (by rfl) (by rfl);refine An ?_;have c3:=((ih ⟨j,w,[b0,b1,b2,b3,b4,b5]⟩ l1 Za v1 (by grind) hl1).mono (fun y H' hq=>(⟨hq,by obtain ⟨l',_,_,rfl⟩:=hq;rfl⟩:_/\H'.length=(Yz x (.list fc (fst.map YT)) (.list sc (sk.map eI)) m l1).length))).front (by rfl) (by rfl) [Am ⟨i,v,[a0,a1,a2,a3,a4,a5]⟩,.cells [.p (.int .i64 acc)]]
       refine ACalls.mono c3 ?_;rintro y H' ⟨H1,⟨l2,hl2,rfl,rfl⟩,rfl⟩;refine EN ?_;refine ACalls.mono ((IE acc (nth sk i) (YJ x.orders.length m x fst sk 20 ⟨j,w,[b0,b1,b2,b3,b4,b5]⟩) Za Za).back [.map (l2.map (IV KM)),W9 x (.list fc (fst.map YT)) (.list sc (sk.map eI)) m,Am ⟨i,v,[a0,a1,a2,a3,a4,a5]⟩] (by rfl)) ?_;rintro y H' ⟨y1,H2,⟨rfl,rfl⟩,rfl,rfl⟩;simp (disch:=omega) only [W9,Am,Zt,Zm,ZQ,ZG,shO,shVs,shV,go_sem,seval];refine Z5 6 mixed Ze Ze ?_
       refine Zc ?_;refine HM (l:=l2) (k:=(⟨i,v,[a0,a1,a2,a3,a4,a5]⟩:St)) M9 (fun p hp=>(hl2 p hp).1.len) hv.len (by rfl) fun l3 _ hl3=> ?_;simp (disch:=omega) only [Z7,go_sem,seval];rw [if_pos h3,Qm hc 19 20 _ (by grind) (by grind) (by grind),hw] at hTe;rw [<- hTe];exact ⟨.p (.int .i64 T),_,wk,l3,fun p hp=>(hl3 p hp).elim (hl2 p) (fun e=>by grind),rfl,rfl⟩
      ·refine Z5 6 mixed Ze Ze (Zc ?_);refine HM (l:=l1) (k:=(⟨i,v,[a0,a1,a2,a3,a4,a5]⟩:St)) M9 hl1R hv.len (by rfl) fun l3 _ hl3=> ?_;simp (disch:=omega) only [Z7,go_sem,seval];rw [if_neg h3] at hTe;rw [<- hTe];exact ⟨.p (.int .i64 T),_,wk,l3,fun p hp=>(hl3 p hp).elim (hl1 p) (fun e=>by grind),rfl,rfl⟩
def HT (n:Nat) (m:Int) (x:Inst) (fst:List (List Col)) (sk:List Int) (s:St) (c:Col):Bool :=
 Vq x s c&&(decide (0<=YJ n m x fst sk 20 (W7 n m s c))&&decide (c.price+YJ n m x fst sk 20 (W7 n m s c)=YJ n m x fst sk 20 s))
def X6 (n:Nat) (m:Int) (x:Inst) (fst:List (List Col)) (sk:List Int):Nat->St->List Col×List Int
 | 0,_=>([],[])
 | d+1,s=>if (n:Int)<=s.ix then ([],[]) else match (nth fst s.ix.toNat).find? (HT n m x fst sk s) with
  | some c=>(c::(X6 n m x fst sk d (W7 n m s c)).1,(X6 n m x fst sk d (W7 n m s c)).2)
  | none=>((X6 n m x fst sk d (B8 n m s)).1,s.ix::(X6 n m x fst sk d (B8 n m s)).2)
theorem I3 {α:Type} [Inhabited α] {p:α->Bool} : ∀ {l:List α} {k:Nat},k<l.length->(∀j,j<k->p (nth l j)=false)->p (nth l k)=true->l.find? p=some (nth l k)
 | [],_,h,_,_=>by simp at h
 | a::l,0,_,_,h=>by
  grind [nth]
 | a::l,k+1,hk,h0,h=>by
  rw [List.find?_cons_of_neg (by rw [show p a=false from h0 0 Za];simp)];exact I3 (l:=l) (k:=k) (by simpa using hk) (fun j hj=>h0 (j+1) Za) h
theorem kI {α:Type} [Inhabited α] {p:α->Bool} {l:List α} (h: ∀j,j<l.length->p (nth l j)=false):l.find? p=none:=by
 rw [A6];intro a ha;obtain ⟨j,hj,rfl⟩:=ZW.1 ha
 grind [Zh]
theorem ZaD (X:AM.Obj) (hX: ∀H n,Dl H n X X) (hX2: ∀o xs,Ox o xs X=X) (x:Inst) (fst:List (List Col)) (sk:List Int) (fc sc:Bool) (m:Int) (hn:x.orders.length<=10) (hf:fst.length=x.orders.length) (hs:sk.length=x.orders.length) (hc:ChOk x.orders.length x fst sk) (hcl: ∀r∈fst,r.length<=1048576)
  (s:St) (l:List (St×Int)) (hv:StV x.orders.length s) (hl:rD x.orders.length m x fst sk l) :
  ACalls Tryz.prog 102 [.ptr 1 0,.p (KM s)] (Yz x (.list fc (fst.map YT)) (.list sc (sk.map eI)) m l++ [X]) fun y H'=> ∃l' A B,rD x.orders.length m x fst sk l'/\(A,B)=X6 x.orders.length m x fst sk 20 s /\
   y= .tup [.sl 4 0 A.length A.length,.p (.list false (B.map eI))]/\H'=Yz x (.list fc (fst.map YT)) (.list sc (sk.map eI)) m l'++ [X,.cells (List.replicate 8 .junk),.elems 7 (A.map X5)]:=by
 obtain ⟨i,v,a0,a1,a2,a3,a4,a5,rfl⟩:=Yt hv.len;obtain ⟨D,hD⟩: ∃D,D=20:=⟨20,rfl⟩;obtain ⟨R,hR⟩: ∃R,R=X6 x.orders.length m x fst sk D ⟨i,v,[a0,a1,a2,a3,a4,a5]⟩:=⟨_,rfl⟩;rw [<- hD,<- hR];have hi0:=hv.ix;simp only at hi0;refine Zg [20] Tryz.func102 rfl uN ?_;simp (disch:=omega) only [Tryz.f102,ZQ,ZG,Yz,W9,Zt,Zm,go_sem,seval]
 refine ZT [20] [0,3] (fun q:Nat×St×List (St×Int)×List Col×List Int=> [(6,.sl 4 0 q.2.2.2.1.length q.2.2.2.1.length),(7,.sl 5 0 q.2.2.2.2.length q.2.2.2.2.length)])
  (fun q=>Yz x (.list fc (fst.map YT)) (.list sc (sk.map eI)) m q.2.2.1++ [X,Am q.2.1,.elems 7 (q.2.2.2.1.map X5),.elems 1 (q.2.2.2.2.map eI)])
  (fun q=>q.1<=D/\StV x.orders.length q.2.1/\(x.orders.length:Int)-q.2.1.ix<q.1/\rD x.orders.length m x fst sk q.2.2.1/\(q.2.2.2.1.length:Int)<=q.2.1.ix/\(q.2.2.2.2.length:Int)<=q.2.1.ix/\R=(q.2.2.2.1++(X6 x.orders.length m x fst sk q.1 q.2.1).1,q.2.2.2.2++(X6 x.orders.length m x fst sk q.1 q.2.1).2))
  (fun q=>q.1) (D,⟨i,v,[a0,a1,a2,a3,a4,a5]⟩,l,[],[]) ⟨Zb,hv,by grind,hl,by grind,by grind,by rw [hR];rfl⟩
  (Weak.ofNil 6 7 (by simp (disch:=omega) only [go_sem,seval]) Zb (Weak.ofNil 7 1 (by simp (disch:=omega) only [go_sem,seval]) Zb (Weak.mk ?_))) ?_
 ·simp (disch:=omega) only [hX,Yz,W9,Am,Zt,Zm,ZQ,ZG,ZA,go_sem,seval,↓reduceIte]
 ·rintro ⟨d,s,l1,A,B⟩ ⟨hd1,hsv,hd,hl1,hA,hB,hq⟩;simp only at hd1 hsv hd hl1 hA hB hq;clear hv hR hi0;obtain ⟨i,v,a0,a1,a2,a3,a4,a5,rfl⟩:=Yt hsv.len;have hi0:=hsv.ix;simp only at hi0 hd hA hB hq;obtain ⟨i,rfl⟩: ∃k:Nat,i=k:=⟨i.toNat,Za⟩;obtain ⟨d,rfl⟩: ∃k,d=k+1:=⟨d-1,Za⟩;refine EN ?_;refine Xn ?_;refine Zc ?_;refine cD ?_ ?_<;>intro h1<;>simp (disch:=omega) only [Sh.out h1,go_sem,seval,↓reduceIte]
  ·have hi2:i<fst.length:=Za
   have hrl:=hcl _ (ZH hi2);have c3:=((CW x fst sk fc sc m hn hf hs hc hcl 20 ⟨i,v,[a0,a1,a2,a3,a4,a5]⟩ l1 Za hsv (by grind) hl1).mono (fun y H' hq=>(⟨hq,by obtain ⟨l',_,_,rfl⟩:=hq;rfl⟩:_/\H'.length=(Yz x (.list fc (fst.map YT)) (.list sc (sk.map eI)) m l1).length))).front (by rfl) (by rfl) [X,Am ⟨i,v,[a0,a1,a2,a3,a4,a5]⟩,.elems 7 (A.map X5),.elems 1 (B.map eI)];refine ACalls.mono c3 ?_;rintro y H' ⟨H1,⟨l2,hl2,rfl,rfl⟩,rfl⟩;clear hl1 c3;obtain ⟨W,hW⟩: ∃W,W=YJ x.orders.length m x fst sk 20 ⟨i,v,[a0,a1,a2,a3,a4,a5]⟩:=⟨_,rfl⟩
   rw [<- hW]
   have hWr: -1<=W/\W<=20*18014398509481984:=by rw [hW];exact Ul hc 20 _ hsv
   refine EN ?_;refine Xn (Zc ?_);refine Zl [0,3,7,8,34,35] (fun q:Nat×List (St×Int)=> [(6,.sl 4 0 A.length A.length),(9,.p (.bool false)),(36,.p (.int .i64 q.1))]) (fun q=>Yz x (.list fc (fst.map YT)) (.list sc (sk.map eI)) m q.2++ [X,Am ⟨i,v,[a0,a1,a2,a3,a4,a5]⟩,.elems 7 (A.map X5),.elems 1 (B.map eI)]) (fun q=>q.1<=(nth fst i).length/\rD x.orders.length m x fst sk q.2/\ ∀j,j<q.1->HT x.orders.length m x fst sk ⟨i,v,[a0,a1,a2,a3,a4,a5]⟩ (nth (nth fst i) j)=false) (fun q=>(nth fst i).length-q.1) (0,l2) ⟨Zb,hl2,fun j hj=>by simp at hj⟩ (Weak.mk ?_) ?_
   ·simp (disch:=omega) only [hX,Yz,W9,Am,Zt,Zm,ZQ,ZG,go_sem,seval,↓reduceIte]
   ·rintro ⟨k,l1⟩ ⟨hk,hl1,hno⟩;simp only at hk hl1 hno;refine EN ?_;refine cD ?_ ?_<;>intro h2<;>simp (disch:=omega) only [Sh.out h2,go_sem,seval,↓reduceIte]
    ·have hk2:k<(nth fst i).length:=Za
     have hm:=ZH hk2;obtain ⟨⟨t0,t1⟩,⟨S,hS,hS2⟩,hb,hp0,hp1⟩:=hc.col i Za _ hm;obtain ⟨C,hC,hC2⟩:=hsv.cov;simp only at hC;have h6:=hc.typ.1;obtain ⟨tt,htt⟩: ∃tt:Nat,(nth (nth fst i) k).typ=tt:=⟨(nth (nth fst i) k).typ.toNat,Za⟩;have cw:=gE x (.list fc (fst.map YT)) (.list sc (sk.map eI)) m l1 ⟨i,v,[a0,a1,a2,a3,a4,a5]⟩ (nth (nth fst i) k) hsv.len Zb hn (by grind) C S tt hC hS htt hC2 hS2 Za h6 hsv.used
     have hmay:Vq x ⟨i,v,[a0,a1,a2,a3,a4,a5]⟩ (nth (nth fst i) k)=CN x ⟨i,v,[a0,a1,a2,a3,a4,a5]⟩ tt C S:=by grind [Vq]
     have hwc:W7 x.orders.length m ⟨i,v,[a0,a1,a2,a3,a4,a5]⟩ (nth (nth fst i) k)=BM x.orders.length m ⟨i,v,[a0,a1,a2,a3,a4,a5]⟩ tt C S:=by grind [W7]
     have more:HT x.orders.length m x fst sk ⟨i,v,[a0,a1,a2,a3,a4,a5]⟩ (nth (nth fst i) k)=false-> ∀j,j<k+1->HT x.orders.length m x fst sk ⟨i,v,[a0,a1,a2,a3,a4,a5]⟩ (nth (nth fst i) j)=false:=fun h j hj=>by
      grind
     by_cases hy:CN x ⟨i,v,[a0,a1,a2,a3,a4,a5]⟩ tt C S=true
     ·obtain ⟨v1,v2⟩:=Dk (m:=m) hc hsv Za (by simpa using hm) (by grind);rw [hwc] at v1 v2;obtain ⟨j,w,b0,b1,b2,b3,b4,b5,hw⟩:=Yt v1.len;rw [if_pos hy,hw] at cw;refine cw.useP (L:= [_,_,_,_,_]) (by rfl) ?_ (by rfl) (by rfl);refine An ?_;have c3:=((CW x fst sk fc sc m hn hf hs hc hcl 20 ⟨j,w,[b0,b1,b2,b3,b4,b5]⟩ l1 Za (hw ▸ v1) (by grind) hl1).mono (fun y H' hq=>(⟨hq,by obtain ⟨l',_,_,rfl⟩:=hq;rfl⟩:_/\H'.length=(Yz x (.list fc (fst.map YT)) (.list sc (sk.map eI)) m l1).length))).front (by rfl) (by rfl) [X,Am ⟨i,v,[a0,a1,a2,a3,a4,a5]⟩,.elems 7 (A.map X5),.elems 1 (B.map eI),P9 (nth (nth fst i) k),Am ⟨j,w,[b0,b1,b2,b3,b4,b5]⟩]
      refine ACalls.mono c3 ?_;rintro y H' ⟨H1,⟨l3,hl3,rfl,rfl⟩,rfl⟩;have hTr:=Ul (m:=m) hc 20 _ v1
      have hsel:HT x.orders.length m x fst sk ⟨i,v,[a0,a1,a2,a3,a4,a5]⟩ (nth (nth fst i) k)=(decide (0<=YJ x.orders.length m x fst sk 20 ⟨j,w,[b0,b1,b2,b3,b4,b5]⟩)&&decide ((nth (nth fst i) k).price+YJ x.orders.length m x fst sk 20 ⟨j,w,[b0,b1,b2,b3,b4,b5]⟩=W)):=by
       rw [HT,hmay,hy,hwc,hw,hW,Wl]
      rw [hw] at hTr;generalize YJ x.orders.length m x fst sk 20 ⟨j,w,[b0,b1,b2,b3,b4,b5]⟩=T at hTr hsel;simp (disch:=omega) only [Yz,W9,Am,P9,Zt,Zm,ZQ,ZG,go_sem,seval];refine gT ?_ ?_<;>intro h3<;>simp (disch:=omega) only [Sh.out h3,go_sem,seval,↓reduceIte]
      ·refine cD ?_ ?_<;>intro h4<;>simp (disch:=omega) only [Sh.out h4,go_sem,seval,↓reduceIte]
       ·rw [YO h3,YO h4,Wl] at hsel
        have hp:X6 x.orders.length m x fst sk (d+1) ⟨i,v,[a0,a1,a2,a3,a4,a5]⟩=(nth (nth fst i) k::(X6 x.orders.length m x fst sk d ⟨j,w,[b0,b1,b2,b3,b4,b5]⟩).1,(X6 x.orders.length m x fst sk d ⟨j,w,[b0,b1,b2,b3,b4,b5]⟩).2):=by
         rw [X6,if_neg (by grind)];simp only [XP,I3 hk2 hno hsel,hwc,hw]
        rw [hw] at v1 v2;simp only at v2;rw [hp] at hq;exact ⟨(d,⟨j,w,[b0,b1,b2,b3,b4,b5]⟩,l3,A++ [nth (nth fst i) k],B),⟨Za,v1,by grind,hl3,by grind,by grind,by grind⟩,Za,Weak.mk (by simp (disch:=omega) only [hX,Zt,Zm,Xx,ZI,Zz,ZA,XG,go_sem,seval])⟩
       ·rw [Yd h4,Kn] at hsel;exact ⟨(k+1,l3),⟨Za,hl3,more hsel⟩,Za,Weak.mk (by simp (disch:=omega) only [hX,go_sem,seval])⟩
      ·rw [Yd h3,U2] at hsel;exact ⟨(k+1,l3),⟨Za,hl3,more hsel⟩,Za,Weak.mk (by simp (disch:=omega) only [hX,go_sem,seval])⟩
     ·rw [if_neg hy] at cw;refine cw.useP (L:= [_,_,_,_,_]) (by rfl) ?_ (by rfl) (by rfl);refine An ?_;exact ⟨(k+1,l1),⟨Za,hl1,more (by rw [HT,hmay,Bool.eq_false_iff.2 hy,U2])⟩,Za,Weak.mk (by simp (disch:=omega) only [hX,go_sem,seval])⟩
    ·have hkl:k=(nth fst i).length:=Za
     subst hkl
     have hp:X6 x.orders.length m x fst sk (d+1) ⟨i,v,[a0,a1,a2,a3,a4,a5]⟩=((X6 x.orders.length m x fst sk d (B8 x.orders.length m ⟨i,v,[a0,a1,a2,a3,a4,a5]⟩)).1,(i:Int)::(X6 x.orders.length m x fst sk d (B8 x.orders.length m ⟨i,v,[a0,a1,a2,a3,a4,a5]⟩)).2):=by
      simp_all [X6,kI]
     rw [hp] at hq;have cn:=GJ x (.list fc (fst.map YT)) (.list sc (sk.map eI)) m l1 ⟨i,v,[a0,a1,a2,a3,a4,a5]⟩ hsv.len Zb hn (by grind);obtain ⟨v1,v2⟩:=Hy (m:=m) hsv Za;obtain ⟨j,w,b0,b1,b2,b3,b4,b5,hw⟩:=Yt v1.len;rw [hw] at cn v1 v2 hq;simp only at v2;refine cn.useP (L:= [_,_,_,_,_]) (by rfl) ?_ (by rfl) (by rfl);refine An ?_;exact ⟨(d,⟨j,w,[b0,b1,b2,b3,b4,b5]⟩,l1,A,B++ [(i:Int)]),⟨Za,v1,by grind,hl1,by grind,by grind,by grind⟩,Za,Weak.mk (by simp (disch:=omega) only [hX,Zt,Zm,Xx,ZI,Zz,ZA,XG,go_sem,seval])⟩
  ·rw [X6,if_pos (by grind)] at hq;simp only [Uj] at hq;subst hq;refine Zr (Weak.fz (o:=5) (by rfl)) (Zf [] _ _ _ _ (VG ?_));exact ⟨.tup [.sl 4 0 A.length A.length,.p (.list false (B.map eI))],_,Weak.mk (by simp (disch:=omega) only [hX,hX2,go_sem,seval]),l1,A,B,hl1,rfl,rfl,rfl⟩
theorem ML (a b:Col) (ha:a.route.visits.length<=1048576) (hb:b.route.visits.length<=1048576):PC 239 [.p (X5 a),.p (X5 b)] (.bool (Jl a b)):=by
 refine Zd Tryz.func239 rfl xK ?_;simp (disch:=omega) only [Tryz.f239,go_sem,seval];refine cD ?_ ?_<;>intro h<;>simp (disch:=omega) only [Sh.out h,go_sem,seval,↓reduceIte]
 ·rw [Jl,if_pos h]
 ·refine (Sp a.route.visits b.route.visits a.route.visits_c b.route.visits_c ha hb).use (Zc ?_);rw [Jl,if_neg h]
def Qz : Col:=⟨0,0,0,⟨0,0,true,[],true,[]⟩⟩
def jX : AM.Obj:= .cells ((sY Qz).map .p)
def Fo (one:Nat->List Col):Nat->List Col
 | 0=> []
 | q+1=>Fo one q++one (q+1)
theorem Ew {one:Nat->List Col} (h: ∀q,(one q).length<=1): ∀q,(Fo one q).length<=q
 | 0=>Zx _
 | q+1=>by
  have:=Ew h q;have:=h (q+1);rw [Fo,ZI];omega
theorem fC (n:Nat) (h:n<=4):ACalls Tryz.prog 91 [.p (.list false [.int .i64 (-1)]),.p (.int .i64 n)] [] fun y H'=>y= .sl 0 0 n n/\H'= [.elems 1 ((Y0 (fun _=> -1) n).map eI)]:=by
 match n,h with
 | 0,_=>exact Ys { kp:= [91] } 20 mixed Ze
 | 1,_=>exact Ys { kp:= [91] } 20 mixed Ze
 | 2,_=>exact Ys { kp:= [91] } 20 mixed Ze
 | 3,_=>exact Ys { kp:= [91] } 20 mixed Ze
 | 4,_=>exact Ys { kp:= [91] } 20 mixed Ze
theorem I7 : ∀(l:List Int),Cx (l.map eI)=true
 | []=>rfl
 | a::l=>by simp [Cx,M1,eI,I7 l]
def AZ (x:Inst) (p:Pln):V:=if YI x p=0 then .tup [.p (.list false ((KN x p).map eI)),.p (.int .i64 0)] else .tup [.p (.list true []),.p (.int .i64 (YI x p))]
theorem RD (x:Inst) (p:Pln) (hn:x.orders.length<=4) (ht:x.types.length<=1048576) (hr:p.routes.length<=1048576) (hv: ∀r∈p.routes,r.visits.length<=1048576) :
  ACalls Tryz.prog 53 [.p (ZF x),.p (Vk p)] [] fun y H'=>y=AZ x p/\H'= []:=by
 have hrp:=fC x.orders.length hn;have hgl: ∀f,(Y0 f x.orders.length).length=x.orders.length:=fun f=>Eu;have h0:Y0 (fun _=> -1) x.orders.length=Y0 (Xo p.routes 0) x.orders.length:=rfl;refine Zg [2] Tryz.func53 rfl ZfU ?_;simp (disch:=omega) only [Tryz.f53,go_sem,seval];refine ACalls.viewF hrp (by rfl) (I7 _) (Zc ?_);refine Zf [26] _ _ _ _ (Zc ?_);refine ZT [26] [2,3,6,21,22] (fun k:Nat=> [(7,.p (.bool (Mf p.routes k))),(23,.p (.int .i64 k))]) (fun k=> [Zj x,Z9 p,.elems 1 [.int .i64 (-1)],.elems 1 ((Y0 (Xo p.routes k) x.orders.length).map eI)]) (fun k=>k<=p.routes.length/\ ∀j,j<k->VN x (nth p.routes j)=false) (fun k=>p.routes.length-k) 0 Zb (Weak.mk ?_) ?_
 ·simp (disch:=omega) only [Zj,Z9,h0,Mf,go_sem,seval]
 ·rintro k ⟨hk,hno⟩;refine VU ?_;refine cD ?_ ?_<;>intro h1<;>simp (disch:=omega) only [Sh.out h1,go_sem,seval,↓reduceIte]
  ·have hk2:k<p.routes.length:=Za
   have hvl:=hv _ (Zo hk2);have hbt:(nth p.routes k).typ<0\/(x.types.length:Int)<=(nth p.routes k).typ->YI x p=2:=fun h=>AY hk2 (by simp_all [VN]);have hbv: ∀q,q<(nth p.routes k).visits.length->EV x.orders.length (nth (nth p.routes k).visits q)=true->YI x p=2:=fun q hq h=>AY hk2 (by rw [VN,Y5];grind [Zo]);refine gF ?_ ?_<;>intro h2<;>simp (disch:=omega) only [Sh.out h2,go_sem,seval,↓reduceIte]
   ·rw [AZ,hbt (.inl h2)];exact we (by simp (disch:=omega) only [go_sem,seval,↓reduceIte])
   ·refine cD ?_ ?_<;>intro h3<;>simp (disch:=omega) only [Sh.out h3,go_sem,seval,↓reduceIte]
    ·rw [AZ,hbt (.inr h3)];exact we (by simp (disch:=omega) only [go_sem,seval,↓reduceIte])
    ·obtain ⟨vs,hvs⟩: ∃vs,vs=(nth p.routes k).visits:=⟨_,rfl⟩;rw [<- hvs] at hvl hbv
     have hm0:Xo p.routes k=U4 p.routes k (vs.take 0):=by rfl
     have ht0:Mf p.routes k=(Mf p.routes k||Pg p.routes k (vs.take 0)):=by simp [Pg]
     refine Zl [2,3,6,8,21,22,23,40,41] (fun q:Nat=> [(7,.p (.bool (Mf p.routes k||Pg p.routes k (vs.take q)))),(42,.p (.int .i64 q))]) (fun q=> [Zj x,Z9 p,.elems 1 [.int .i64 (-1)],.elems 1 ((Y0 (U4 p.routes k (vs.take q)) x.orders.length).map eI),ZO (nth p.routes k)]) (fun q=>q<=vs.length/\ ∀j,j<q->0<=(nth vs j).order/\(nth vs j).order<(x.orders.length:Int)) (fun q=>vs.length-q) 0 Zb (Weak.mk ?_) ?_
     ·simp (disch:=omega) only [Zj,Z9,ZO,<- hvs,go_sem,seval]
      grind
     ·rintro q ⟨hq,hin⟩;simp (disch:=omega) only [Zj,Z9,ZO,<- hvs,go_sem,seval];refine ZD ?_ ?_<;>intro h4
      ·have hq2:q<vs.length:=Za
       have htk:vs.take (q+1)=vs.take q++ [nth vs q]:=by rw [Xw hq2,Zh hq2]
       refine gF ?_ ?_<;>intro h5<;>simp (disch:=omega) only [Sh.out h5,go_sem,seval,↓reduceIte]
       ·rw [AZ,hbv q hq2 (by simp [EV,h5])];exact we (by simp (disch:=omega) only [go_sem,seval,↓reduceIte])
       ·refine cD ?_ ?_<;>intro h6<;>simp (disch:=omega) only [Sh.out h6,go_sem,seval]
        ·rw [AZ,hbv q hq2 (by simp [EV,h6])];exact we (by simp (disch:=omega) only [go_sem,seval,↓reduceIte])
        ·have hvo:0<=(nth vs q).order/\(nth vs q).order<(x.orders.length:Int):=⟨Za,Za⟩
         have hvn:(nth vs q).order.toNat<x.orders.length:=Za
         have htw:=fV (rs:=p.routes) (k:=k) (l:=vs.take q) (v:=nth vs q) hvo.1 (b:=Mf p.routes k);rw [<- htk] at htw;have hms:=RB (rs:=p.routes) (k:=k) (l:=vs.take q) (v:=nth vs q) hvo;rw [<- htk] at hms
         have hset:((Y0 (U4 p.routes k (vs.take q)) x.orders.length).map eI).set (nth vs q).order.toNat (.int .i64 k)=(Y0 (U4 p.routes k (vs.take (q+1))) x.orders.length).map eI:=by rw [<- hms,Vu];rfl
         have he:UT ((Y0 (U4 p.routes k (vs.take q)) x.orders.length).map eI) (nth vs q).order.toNat= .int .i64 (U4 p.routes k (vs.take q) (nth vs q).order.toNat):=by rw [WY (by grind),Ev hvn];rfl
         have hrl:=hgl (U4 p.routes k (vs.take q));have hrg:=cG (rs:=p.routes) (k:=k) (l:=vs.take q) (o:=(nth vs q).order.toNat);generalize U4 p.routes k (vs.take q) (nth vs q).order.toNat=M at he htw hrg;have hnx: ∀j,j<q+1->0<=(nth vs j).order/\(nth vs j).order<(x.orders.length:Int):=Zn.2 ⟨hin,hvo⟩;generalize (Mf p.routes k||Pg p.routes k (vs.take q))=B at htw ⊢
         cases B with
         | true =>
          rw [Bool.true_or] at htw;simp (disch:=first | omega | (simp only [Zz,ZA,ZI,ZM,ZY,Xf]<;>omega)) only [eq_self,go_sem,seval];exact ⟨q+1,⟨Za,hnx⟩,Za,Weak.mk (by simp (disch:=omega) only [hset,<- htw,<- hvs,go_sem,seval])⟩
         | false =>
          rw [Bool.false_or] at htw;simp (disch:=first | omega | (simp only [Zz,ZA,ZI,ZM,ZY,Xf]<;>omega)) only [he,hrl,hvn,eq_self,go_sem,seval,↓reduceIte];refine gT ?_ ?_<;>intro h7<;>simp (disch:=omega) only [Sh.out h7,go_sem,seval,↓reduceIte]
          ·rw [YO h7,Wl] at htw;simp (disch:=first | omega | (simp only [Zz,ZA,ZI,ZM,ZY,Xf]<;>omega)) only [he,hrl,hvn,eq_self,go_sem,seval];exact ⟨q+1,⟨Za,hnx⟩,Za,Weak.mk (by simp (disch:=omega) only [hset,<- htw,<- hvs,go_sem,seval])⟩
          ·rw [Yd h7,U2] at htw;simp (disch:=first | omega | (simp only [Zz,ZA,ZI,ZM,ZY,Xf]<;>omega)) only [eq_self,go_sem,seval];exact ⟨q+1,⟨Za,hnx⟩,Za,Weak.mk (by simp (disch:=omega) only [hset,<- htw,<- hvs,go_sem,seval])⟩
      ·have hql:q=vs.length:=Za
       subst hql
       have hgood:VN x (nth p.routes k)=false:=by
        rw [VN,Bool.or_eq_false_iff];refine ⟨by simp [h2,h3],?_⟩;rw [<- hvs,Yi];intro v hm;obtain ⟨j,hj,rfl⟩:=ZW.1 hm
        grind [Zh,EV]
       rw [XZ]
       have e1:U4 p.routes k vs=Xo p.routes (k+1):=by grind [cE]
       have e2:(Mf p.routes k||Pg p.routes k vs)=Mf p.routes (k+1):=by rw [hvs];rfl
       exact ⟨k+1,⟨Za,Zn.2 ⟨hno,hgood⟩⟩,Za,Weak.mk (by simp (disch:=omega) only [e1,e2,go_sem,seval])⟩
  ·have hkl:k=p.routes.length:=Za
   subst hkl;have hz:=Ht hno
   cases htw:Mf p.routes p.routes.length with
   | true =>
    rw [if_pos htw] at hz;rw [AZ,hz];refine Zc ?_;exact we
   | false =>
    rw [if_neg (by grind)] at hz;rw [AZ,if_pos hz];simp (disch:=first | omega | (simp only [Zz,ZA,ZI,ZM,ZY,Xf]<;>omega)) only [hgl,eq_self,go_sem,seval,↓reduceIte];refine ZT [26] [3,12,84,85] (fun j:Nat=> [(86,.p (.int .i64 j))]) (fun j=> [Zj x,Z9 p,.elems 1 [.int .i64 (-1)],.elems 1 ((Y0 (fun o=>if o<j then QR p.routes (Xo p.routes p.routes.length o) else Xo p.routes p.routes.length o) x.orders.length).map eI)]) (fun j=>j<=x.orders.length) (fun j=>x.orders.length-j) 0 Zb (Weak.mk ?_) ?_
    ·refine VU ?_;simp
    ·intro j hj;have hrl:=hgl (fun o=>if o<j then QR p.routes (Xo p.routes p.routes.length o) else Xo p.routes p.routes.length o);refine VU ?_;refine cD ?_ ?_<;>intro h2<;>simp (disch:=omega) only [Sh.out h2,go_sem,seval,↓reduceIte]
     ·have hj2:j<x.orders.length:=Za
      have hrg:=Qj (rs:=p.routes) (o:=j) p.routes.length
      have he:UT ((Y0 (fun o=>if o<j then QR p.routes (Xo p.routes p.routes.length o) else Xo p.routes p.routes.length o) x.orders.length).map eI) j= .int .i64 (Xo p.routes p.routes.length j):=by rw [WY Za,Ev hj2,if_neg Za];rfl
      have hset:((Y0 (fun o=>if o<j then QR p.routes (Xo p.routes p.routes.length o) else Xo p.routes p.routes.length o) x.orders.length).map eI).set j (.int .i64 (QR p.routes (Xo p.routes p.routes.length j)))=(Y0 (fun o=>if o<j+1 then QR p.routes (Xo p.routes p.routes.length o) else Xo p.routes p.routes.length o) x.orders.length).map eI:=by
       rw [show PV.int .i64 (QR p.routes (Xo p.routes p.routes.length j))=eI (QR p.routes (Xo p.routes p.routes.length j)) from rfl,<- Vu,LK]
       grind
      have hsame:Xo p.routes p.routes.length j<0->(Y0 (fun o=>if o<j+1 then QR p.routes (Xo p.routes p.routes.length o) else Xo p.routes p.routes.length o) x.orders.length)=(Y0 (fun o=>if o<j then QR p.routes (Xo p.routes p.routes.length o) else Xo p.routes p.routes.length o) x.orders.length):=fun h=>by
       refine Df fun o _=> ?_
       by_cases c:o=j
       ·subst c;rw [if_pos Za,if_neg Za,QR,if_neg Za];omega
       omega
      simp (disch:=first | omega | (simp only [Zz,ZA,ZI,ZM,ZY,Xf]<;>omega)) only [he,hrl,hj2,eq_self,go_sem,seval,↓reduceIte];generalize hL:Xo p.routes p.routes.length j=L at he hset hsame hrg ⊢;refine ZD ?_ ?_<;>intro h3
      ·have hty:QR p.routes L=(nth p.routes L.toNat).typ:=by rw [QR,if_pos h3]
       have hlt:L<(p.routes.length:Int):=hrg.2;rw [hty] at hset;simp (disch:=first | omega | (simp only [Zz,ZA,ZI,ZM,ZY,Xf]<;>omega)) only [eq_self,go_sem,seval];exact ⟨j+1,Za,Za,Weak.mk (by simp (disch:=omega) only [hset,go_sem,seval])⟩
      ·exact ⟨j+1,Za,Za,Weak.mk (by simp (disch:=omega) only [hsame Za,go_sem,seval])⟩
     ·have hjl:j=x.orders.length:=Za
      have hfin:Y0 (fun o=>if o<j then QR p.routes (Xo p.routes p.routes.length o) else Xo p.routes p.routes.length o) x.orders.length=KN x p:=Df fun o ho=>Za
      rw [hfin];have hkl:=DY (x:=x) (p:=p);refine Zr (Weak.fz (o:=3) (by rfl)) (Zf [] _ _ _ _ (VG ?_));rw [if_pos hkl];exact we
theorem Zfn {α:Type} [Inhabited α] {l:List α} {k:Nat} (h:k<l.length):(l.take (k+1)).drop k= [nth l k]:=by
 grind [T5]
theorem bQ {x:Inst} {p:Pln} {o:Nat} (hno: ∀j,j<p.routes.length->VN x (nth p.routes j)=false) (h:2<=nW p.routes (o:Int) p.routes.length):YI x p=6:=by
 rw [Ht hno,if_pos];refine (Dj fun j hj v hv=>((Qo (hno j hj)).2 v hv).1).2 ⟨o,h,?_⟩
 grind [U6]
theorem Rr {x:Inst} {p:Pln} (hno: ∀j,j<p.routes.length->VN x (nth p.routes j)=false) (h: ∀o:Nat,o<x.orders.length->nW p.routes (o:Int) p.routes.length<=1):YI x p=0:=by
 rw [Ht hno,if_neg];intro h2;obtain ⟨o,h3,j,hj,h4⟩:=(Dj fun j hj v hv=>((Qo (hno j hj)).2 v hv).1).1 h2;obtain ⟨v,hv,e⟩:=XE.1 h4;have:=(Qo (hno j hj)).2 v hv
 grind
theorem NJ (x:Inst) (p:Pln) (hn:x.orders.length<=1048576) (ht:x.types.length<=1048576) (hr:p.routes.length<=1048576) (hv: ∀r∈p.routes,r.visits.length<=1048576) :
  PC 132 [.p (ZF x),.p (Vk p)] (.int .i64 (YI x p)):=by
 refine Zd Tryz.func132 rfl vA ?_;simp (disch:=omega) only [Tryz.f132,go_sem,seval];refine Zl [2,3] (fun k:Nat=> [(5,.p (.int .i64 k))]) (fun _=> [Zj x,Z9 p]) (fun k=>k<=p.routes.length/\ ∀j,j<k->VN x (nth p.routes j)=false) (fun k=>p.routes.length-k) 0 Zb (Weak.mk ?_) ?_
 ·simp (disch:=omega) only [Zj,Z9,go_sem,seval]
 ·rintro k ⟨hk,hno⟩;refine VU ?_;refine cD ?_ ?_<;>intro h1<;>simp (disch:=omega) only [Sh.out h1,go_sem,seval,↓reduceIte]
  ·have hk2:k<p.routes.length:=Za
   have hvl:=hv _ (Zo hk2);have hbt:(nth p.routes k).typ<0\/(x.types.length:Int)<=(nth p.routes k).typ->YI x p=2:=fun h=>AY hk2 (by simp_all [VN]);have hbv: ∀q,q<(nth p.routes k).visits.length->EV x.orders.length (nth (nth p.routes k).visits q)=true->YI x p=2:=fun q hq h=>AY hk2 (by rw [VN,Y5];grind [Zo]);refine Xn (Zc ?_);refine gF ?_ ?_<;>intro h2<;>simp (disch:=omega) only [Sh.out h2,go_sem,seval,↓reduceIte]
   ·grind
   ·refine cD ?_ ?_<;>intro h3<;>simp (disch:=omega) only [Sh.out h3,go_sem,seval]
    ·grind
    ·refine Zl [2,3,5] (fun q:Nat=> [(6,.p (.int .i64 q))]) (fun q=> [Zj x,Z9 p]) (fun q=>q<=(nth p.routes k).visits.length/\ ∀j,j<q->EV x.orders.length (nth (nth p.routes k).visits j)=false) (fun q=>(nth p.routes k).visits.length-q) 0 Zb (Weak.mk ?_) ?_
     ·simp (disch:=omega) only [Zj,Z9,go_sem,seval]
     ·rintro q ⟨hq,hin⟩;refine VU ?_;refine ZD ?_ ?_<;>intro h4
      ·have hq2:q<(nth p.routes k).visits.length:=Za
       refine Xn (Zc ?_);refine gF ?_ ?_<;>intro h5<;>simp (disch:=omega) only [Sh.out h5,go_sem,seval,↓reduceIte]
       ·grind [EV]
       ·refine ZD ?_ ?_<;>intro h6
        ·grind [EV]
        ·exact ⟨q+1,⟨Za,Zn.2 ⟨hin,by simp [EV];omega⟩⟩,Za,wk⟩
      ·have hql:q=(nth p.routes k).visits.length:=Za
       have hgood:VN x (nth p.routes k)=false:=by
        rw [VN,Bool.or_eq_false_iff];refine ⟨by simp [h2,h3],?_⟩;rw [Yi];intro v hm;obtain ⟨j,hj,rfl⟩:=ZW.1 hm
        grind [Zh]
       exact ⟨k+1,⟨Za,Zn.2 ⟨hno,hgood⟩⟩,Za,wk⟩
  ·have hkl:k=p.routes.length:=Za
   subst hkl;refine Zl [2,3] (fun i:Nat=> [(7,.p (.int .i64 i))]) (fun _=> [Zj x,Z9 p]) (fun i=>i<=x.orders.length/\ ∀j,j<i->nW p.routes (j:Nat) p.routes.length<=1) (fun i=>x.orders.length-i) 0 Zb (Weak.mk ?_) ?_
   ·simp (disch:=omega) only [Zj,Z9,go_sem,seval]
   ·rintro i ⟨hi,hone⟩;refine VU ?_;refine cD ?_ ?_<;>intro h2<;>simp (disch:=omega) only [Sh.out h2,go_sem,seval,↓reduceIte]
    ·have hi2:i<x.orders.length:=Za
     refine Zl [2,3,7] (fun k:Nat=> [(8,.p (.int .i64 (nW p.routes (i:Int) k))),(9,.p (.int .i64 k))]) (fun _=> [Zj x,Z9 p]) (fun k=>k<=p.routes.length) (fun k=>p.routes.length-k) 0 Zb (Weak.mk ?_) ?_
     ·simp (disch:=omega) only [Zj,Z9,nW,go_sem,seval]
     ·intro k hk;have hnl:=qN (rs:=p.routes) (o:=(i:Int)) k;refine VU ?_;refine cD ?_ ?_<;>intro h3<;>simp (disch:=omega) only [Sh.out h3,go_sem,seval,↓reduceIte]
      ·have hk2:k<p.routes.length:=Za
       have hty:=(Qo (hno k hk2)).1;have ck:=Gw ⟨p.routes_c&&decide ((k:Int)+1=(p.routes.length:Int)),[nth p.routes k],true,[]⟩ (i:Int) Zb (fun r hr=>by grind [Zo]);rw [Zfn hk2]
       by_cases c:hasO (nth p.routes k).visits (i:Int)=true
       ·rw [show QQ [nth p.routes k] (i:Int)=(nth p.routes k).typ from by rw [QQ,if_pos c]] at ck
        have hs:nW p.routes (i:Int) (k+1)=nW p.routes (i:Int) k+1:=by rw [nW,if_pos c]
        refine (ck).use (Zc ?_);refine ZD ?_ ?_<;>intro h5
        ·exact ⟨k+1,Za,Za,Weak.mk (by simp (disch:=omega) only [hs,go_sem,seval])⟩
        ·omega
       ·rw [show QQ [nth p.routes k] (i:Int)= -1 from by simp_all [QQ]] at ck
        have hs:nW p.routes (i:Int) (k+1)=nW p.routes (i:Int) k:=by simp_all [nW]
        refine (ck).use (Zc ?_);exact ⟨k+1,Za,Za,Weak.mk (by simp (disch:=omega) only [hs,go_sem,seval])⟩
      ·have hkl:k=p.routes.length:=Za
       subst hkl;refine ZD ?_ ?_<;>intro h4
       ·rw [bQ hno (o:=i) Za]
       ·exact ⟨i+1,⟨Za,Zn.2 ⟨hone,Za⟩⟩,Za,wk⟩
    ·have hil:i=x.orders.length:=Za
     simp_all [Rr]
theorem Sg {f:Nat->Int} {n:Nat} :Y0 f (n+1)=Y0 f n++ [f n]:=by simp [Y0,Yj]
theorem Nz (x:Inst) (p:Pln) (hn:x.orders.length<=1048576) (ht:x.types.length<=1048576) (hr:p.routes.length<=1048576) (hv: ∀r∈p.routes,r.visits.length<=1048576) :
  ACalls Tryz.prog 81 [.p (ZF x),.p (Vk p)] [] fun y H'=>y=AZ x p/\H'= []:=by
 have cw:=NJ x p hn ht hr hv;have ck:=fun o=>Gw p o hr hv;refine Zg [5] Tryz.func81 rfl Zf9 ?_;simp (disch:=omega) only [Tryz.f81,go_sem,seval];refine (cw).use (Zc ?_)
 by_cases h0:YI x p=0
 ·rw [AZ,if_pos h0,h0];refine Zc ?_;refine Zr (Weak.ofNil 7 1 (by simp (disch:=omega) only [go_sem,seval]) Zb (Weak.refl _ _ _)) ?_;refine Zf [9] _ _ _ _ (Zc ?_);have hf:=bU h0;refine ZT [9] [2,3] (fun q:Nat×List Int=> [(7,.sl 2 0 q.2.length q.2.length),(8,.p (.int .i64 q.1))]) (fun q=> [Zj x,Z9 p,.elems 1 (q.2.map eI)]) (fun q=>q.1<=x.orders.length/\q.2=Y0 (fun i=>QQ p.routes (i:Int)) q.1) (fun q=>x.orders.length-q.1) (0,[]) ⟨Zb,by simp [Y0]⟩ (Weak.mk ?_) ?_
  ·simp (disch:=omega) only [Zj,Z9,go_sem,seval]
  ·rintro ⟨k,m⟩ ⟨hk,hm⟩;simp only at hk hm
   have hml:m.length=k:=by rw [hm];exact Eu
   refine VU ?_;refine cD ?_ ?_<;>intro h<;>simp (disch:=omega) only [Sh.out h,go_sem,seval,↓reduceIte]
   ·have hk2:k<x.orders.length:=Za
    refine (ck (k:Int)).use (Zc ?_);exact ⟨(k+1,m++ [QQ p.routes (k:Int)]),⟨Za,by grind [Sg]⟩,Za,wk⟩
   ·have hkl:k=x.orders.length:=Za
    subst hkl;rw [hf] at hm;subst hm;refine Zr (Weak.fz (o:=2) (by rfl)) (Zf [] _ _ _ _ (VG ?_));exact we
 ·rw [AZ,if_neg h0];have hE: ¬(YI x p=0):=h0;refine cD ?_ ?_<;>intro h1<;>simp (disch:=omega) only [Sh.out h1,go_sem,seval]
  ·exact we
  ·omega
def aX (a:List Int) (i:Nat):Nat->Bool
 | 0=>true
 | k+1=>aX a i k&&decide (nth a k≠nth a i)
theorem I9 {a:List Int} {i:Nat} : ∀k,aX a i k=true↔ ∀t,t<k->nth a t≠nth a i
 | 0=>by simp [aX]
 | k+1=>by
  rw [aX,Zy,I9 k,Zp]
  grind
def M3 (a:List Int) (i:Nat):Bool:=aX a i i
theorem AU {a:List Int} {i:Nat} :M3 a i=true↔ ∀t,t<i->nth a t≠nth a i:=I9 i
def EU (l:List Col) (a:List Int) (T:Int) (i:Nat):Bool:=decide (0<=nth a i)&&(decide ((nth l (nth a i).toNat).typ=T)&&M3 a i)
def usdI (l:List Col) (a:List Int) (T:Int):Nat->Nat
 | 0=>0
 | i+1=>usdI l a T i+(if EU l a T i=true then 1 else 0)
def Ci (S:Nat) (a:List Int) (j:Int):List Int:=(List.range a.length).map fun i=>if S.testBit i=true then j else nth a i
theorem EH {S:Nat} {a:List Int} {j:Int} :(Ci S a j).length=a.length:=by simp [Ci]
theorem Ym {S:Nat} {a:List Int} {j:Int} {i:Nat} (h:i<a.length):nth (Ci S a j) i=if S.testBit i=true then j else nth a i:=by
 grind [Ci,Zh]
def okA (S:Nat) (a:List Int) (k:Nat):Bool:=(List.range a.length).all fun i=> !S.testBit i||(decide (nth a i<0)&&decide (k<=i))
theorem Db {S:Nat} {a:List Int} {k:Nat} :okA S a k=true↔ ∀i,i<a.length->S.testBit i=true->nth a i<0/\k<=i:=by
 simp only [okA,Zu,ZS,Y5,XI,Zy,Zp]
 grind
def Hb (x:Inst) (l:List Col) (a:List Int) (j k:Nat):Bool :=
 (nth l j).set.toNat.testBit k&&(decide ((usdI l a (nth l j).typ a.length:Int)<(nth x.types (nth l j).typ.toNat).count)&&okA (nth l j).set.toNat a k)
def skR (x:Inst) (k:Nat):Int:=(XV (Yk x k).1).1
def Rw (x:Inst) (l:List Col):Nat->List Int->Int->List (List Int×Int)
 | 0,a,p=> [(a,p)]
 | d+1,a,p=>if (nth x.orders (x.orders.length-(d+1))).off=true\/0<=nth a (x.orders.length-(d+1)) then Rw x l d a p else
  ((List.range l.length).flatMap fun j=>if Hb x l a j (x.orders.length-(d+1))=true then Rw x l d (Ci (nth l j).set.toNat a j) (p+(nth l j).price) else []) ++
   (if 0<=(nth x.orders (x.orders.length-(d+1))).penalty then Rw x l d a (p+skR x (x.orders.length-(d+1))) else [])
def Ze5 (l:List Col):List Int->List Int->Option Bool
 | x::a,y::b=>if x=y then Ze5 l a b else if x<0\/y<0 then some (decide (0<=x)) else if (nth l x.toNat).typ≠(nth l y.toNat).typ then some (decide ((nth l x.toNat).typ<(nth l y.toNat).typ)) else
   if (nth l x.toNat).set≠(nth l y.toNat).set then some (decide ((nth l x.toNat).set<(nth l y.toNat).set)) else Ze5 l a b
 | _,_=>none
end Go.Proofs.YtiigdaohjanidaaGreatDoor.K
