/- Declarations that the closing texts need, part 19: joined by tools/slim.py. -/
import Derived.Test.YtjkkdmeebhjaiaaGreatDoorY18
import Derived.Shelf.Slices.In.SortNone
import Derived.Shelf.Sort.Plain
set_option linter.unusedVariables false
set_option linter.unusedSimpArgs false
namespace Go.Proofs.YtjkkdmeebhjaiaaGreatDoor.K
open Go Go.AM Go.Proofs
set_option maxRecDepth 8000
set_option maxHeartbeats 2000000
theorem HM {l:List Col} : ∀(L:List (List Int×Int)) (b:Chc),(b.found=true->(L.foldl (YE l) b).found=true/\(L.foldl (YE l) b).price<=b.price)/\(∀q∈L,(L.foldl (YE l) b).found=true/\(L.foldl (YE l) b).price<=q.2)/\((L.foldl (YE l) b).found=true->L.foldl (YE l) b=b\/ ∃q∈L,(L.foldl (YE l) b).price=q.2)
 | [],b=>⟨fun h=>⟨h,Int.le_refl _⟩,fun q hq=>by simp at hq,fun _=> .inl rfl⟩
 | q::L,b=>by
  rw [XG];obtain ⟨i1,i2,i3⟩:=HM (l:=l) L (YE l b q)
  have hf:(YE l b q).found=true/\(YE l b q).price<=q.2/\(b.found=true->(YE l b q).price<=b.price)/\(YE l b q=b\/(YE l b q).price=q.2):=by
   unfold YE
   split
   ·rename_i c;refine ⟨rfl,Int.le_refl _,fun hb=> ?_,.inr rfl⟩
    show q.2<=b.price
    rcases c with c | c | c
    ·rw [hb] at c;cases c
    ·omega
    ·omega
   ·rename_i c
    have c1:b.found=true:=by
     cases hb:b.found with
     | true=>rfl
     | false=>exact absurd (.inl hb) c
    refine ⟨c1,?_,fun _=>Int.le_refl _,.inl rfl⟩;exact Int.not_lt.1 fun g=>c (.inr (.inl g))
  obtain ⟨f1,f2,f3,f4⟩:=hf;obtain ⟨g1,g2⟩:=i1 f1;refine ⟨fun hb=>⟨g1,Int.le_trans g2 (f3 hb)⟩,fun q' hq=> ?_,fun hfo=> ?_⟩
  ·rcases Z5.1 hq with rfl | hq
   ·exact ⟨g1,Int.le_trans g2 f2⟩
   ·exact i2 q' hq
  ·rcases i3 hfo with e | ⟨q',hq,e⟩
   ·rcases f4 with f4 | f4
    ·exact .inl (e.trans f4)
    ·exact .inr ⟨q,Zb,by rw [e];exact f4⟩
   ·exact .inr ⟨q',X9 _ hq,e⟩
noncomputable def S5 (x:Inst):List (List Int×Int):=B9 x (Uc x) x.orders.length (List.replicate x.orders.length (-1)) 0
theorem rK {x:Inst} (hx:InstOk x) (hn:x.orders.length<=4):(WG x=24/\DZ x=0/\S5 x= [])\/(WG x=0/\(∃q∈S5 x,DZ x=q.2)/\ ∀q∈S5 x,DZ x<=q.2):=by
 obtain ⟨hl,_⟩:=D4 hn (sB hx);have hr:=aG hx hn;obtain ⟨u1,u2,u3⟩:=HM (l:=Uc x) (S5 x) zCh;have ea:DN x (Uc x)=(S5 x).foldl (YE (Uc x)) zCh:=rfl;rw [<- ea] at u1 u2 u3;obtain ⟨b,hb,h1,h2⟩:=Lr x;rcases hb with ⟨k1,_⟩ | ⟨_,⟨c,kc,k2⟩,_⟩ | ⟨_,_,k3⟩
 ·omega
 ·rw [hr c kc] at k2;cases k2
 ·rcases k3 with ⟨k4,rfl,k5⟩ | ⟨k4,rfl,k5⟩
  ·refine .inl ⟨k5,(h1 (by rw [k5];decide)).2,?_⟩
   cases hc:S5 x with
   | nil=>rfl
   | cons q L =>
    have:=(u2 q (by rw [hc];simp)).1;rw [k4] at this;cases this
  ·have e:=(h2 k5).1;have e:DZ x=(DN x (Uc x)).price:=e;refine .inr ⟨k5,?_,fun q hq=>by rw [e];exact (u2 q hq).2⟩;rcases u3 k4 with g | ⟨q,hq,g⟩
   ·rw [g] at k4;cases k4
   ·exact ⟨q,hq,by rw [e];exact g⟩
theorem J2 {x:Inst} (hx:InstOk x) (hn:x.orders.length<=4):WG x=0\/WG x=24:=by
 rcases rK hx hn with h | h
 ·exact .inr h.1
 ·exact .inl h.1
theorem N2 {x:Inst} {l:List Itm} :(Wr x l).orders.length=x.orders.length/\(Wr x l).types.length=x.types.length:=⟨UR _ _,VL _ _⟩
structure PenE (x y:Inst):Prop where
 net:y.net=x.net
 typ:y.types=x.types
 ap:y.apart=x.apart
 be:y.before=x.before
 len:y.orders.length=x.orders.length
 ord: ∀j,∃q,nth y.orders j= { nth x.orders j with penalty:=q }
section
variable {x y : Inst} (h : PenE x y)
include h
theorem ZiN (j:Nat):(nth y.orders j).pick=(nth x.orders j).pick/\(nth y.orders j).drp=(nth x.orders j).drp/\(nth y.orders j).off=(nth x.orders j).off/\(nth y.orders j).load=(nth x.orders j).load/\(nth y.orders j).skills=(nth x.orders j).skills/\(nth y.orders j).last=(nth x.orders j).last/\(nth y.orders j).now=(nth x.orders j).now/\(nth y.orders j).name=(nth x.orders j).name/\(nth y.orders j).split=(nth x.orders j).split:=by
 obtain ⟨q,e⟩:=h.ord j;rw [e];exact ⟨rfl,rfl,rfl,rfl,rfl,rfl,rfl,rfl,rfl⟩
end
def Vt (x:Inst) (i:Nat):Inst:= { x with orders_c:=false,orders:=x.orders.set i { nth x.orders i with penalty:= -1 } }
theorem RX {x:Inst} {i j:Nat} (hi:i<x.orders.length):nth (Vt x i).orders j=if i=j then { nth x.orders i with penalty:= -1 } else nth x.orders j:=I1 hi
theorem iT {x:Inst} {i:Nat} (hi:i<x.orders.length):PenE x (Vt x i):=⟨rfl,rfl,rfl,rfl,Vk ..,fun j=>by
 rw [RX hi]
 split
 ·rename_i e;subst e;exact ⟨_,rfl⟩
 ·exact ⟨_,rfl⟩⟩
theorem O2 {x:Inst} {i:Nat} (hx:InstOk x) (hi:i<x.orders.length):InstOk (Vt x i):=by
 have hl:(Vt x i).orders.length=x.orders.length:=Vk ..;have ho:=hx.orders;refine ⟨hx.net,hx.types,⟨by rw [hl];exact ho.1,fun j hj=> ?_⟩,?_⟩
 ·rw [hl] at hj;have hh:=ho.2 j hj;obtain ⟨h1,h2,h3,h4,h5,h6,h7,h8,h9⟩:=ZiN (iT hi) j
  show OrdOk x.net.places.length (dimsOf x.types) x.types.length (Vt x i).orders j
  refine ⟨?_,?_,?_,?_,?_,?_,?_,?_,?_,?_⟩
  ·rw [h8];exact hh.name
  ·intro k hk;rw [h8,(ZiN (iT hi) k).2.2.2.2.2.2.2.1];exact hh.twin k hk
  ·rw [h4];exact hh.load
  ·rw [h1];exact hh.pick
  ·rw [h2];exact hh.drp
  ·rw [h1,h2];exact hh.one
  ·rw [h1];exact hh.pstp
  ·rw [h2];exact hh.dstp
  ·rw [h5];exact hh.skills
  ·have ha:=hh.arg
   have hp: -1<=(nth (Vt x i).orders j).penalty/\(nth (Vt x i).orders j).penalty<=1000000:=by
    simp only [argOk,Zw,JZ] at ha;rw [RX hi]
    split
    ·simp
    ·exact ha.1.1
   simp only [argOk,EV,Zw,JZ,h1,h2,h6,h7,h9] at ha ⊢;exact ⟨⟨hp,ha.1.2⟩,ha.2⟩
 ·have e:chk ((Vt x i).orders.length:Int) x.apart x.before= []:=by rw [hl];exact hx.rules
  exact e
def FE (x:Inst) (l:List Itm):List Itm:=(YN x 10).filter fun v=>decide (v ∉ l)
def UG (x:Inst) (l:List Itm):Inst:=Wr x (FE x l)
def Kh (x:Inst) (l:List Itm):Inst:=if WK x l=0 then UG x l else zeroI
theorem iK {x:Inst} {l:List Itm} {v:Itm} :v∈FE x l↔Yf x v=true/\v ∉ l:=by
 rw [FE,JV,U3,Zs]
theorem Nf {x:Inst} {l:List Itm} : ∀v∈FE x l,Yf x v=true:=fun _ h=>(iK.1 h).1
theorem FN (x:Inst):(YN x 10).Nodup:=(KK x 10).imp fun {a b} h e=>by
 subst e;rw [UC] at h;omega
theorem FF (x:Inst) (l:List Itm):WK x (FE x l)=0:=Mm.2 ⟨Nf,(FN x).filter _⟩
theorem Cw {x:Inst} {l:List Itm} (h:l.Sublist (YN x 10)):WK x l=0:=Mm.2 ⟨fun v hv=>U3.1 (h.subset hv),(FN x).sublist h⟩
theorem IP {x:Inst} {l:List Itm} (hx:InstOk x):InstOk (UG x l):=PL hx Nf
theorem Fk {x:Inst} {l:List Itm} :(UG x l).orders.length=x.orders.length:=N2.1
theorem Fm {x:Inst} (hx:InstOk x) (hn:x.orders.length<=4) (l:List Itm):WG (UG x l)=0\/WG (UG x l)=24:=J2 (IP hx) (by rw [Fk];exact hn)
noncomputable def Cf (x:Inst):Nat->List Itm->Nat->List Itm
 | 0,l,_=>l
 | f+1,l,k=>if k<l.length then (if WG (UG x (l.eraseIdx k))=24 then Cf x f (l.eraseIdx k) k else Cf x f l (k+1)) else l
noncomputable def iP (x:Inst):List Itm:=Cf x (YN x 10).length (YN x 10) 0
noncomputable def JX (x:Inst):List Itm:=if WG x=24 then iP x else []
noncomputable def Ky (x:Inst):Int:=if WG x=24 then 0 else 9
set_option maxRecDepth 60000
set_option maxHeartbeats 8000000
theorem BC (l:List Itm) (c:Bool) (v:Itm) (hl:l.length<=1048576):PC 30 [.p (.list c (l.map Xe)),.p (Xe v)] (.bool (decide (v∈l))):=by
 refine Zc Tryz.func30 rfl Zhl ?_;simp (disch:=omega) only [Tryz.f30,go_sem,seval];refine Zl [3,7,8] (fun k:Nat=> [(9,.p (.int .i64 k))]) (fun _=> [.cells [.p (.int .i64 v.kind),.p (.int .i64 v.a)]]) (fun k=>k<=l.length/\ ∀j,j<k-> ¬nth l j=v) (fun k=>l.length-k) 0 Zb (Weak.mk ?_) ?_
 ·simp (disch:=omega) only [go_sem,seval]
 ·rintro k ⟨hk,hno⟩;simp (disch:=omega) only [go_sem,seval];refine cD ?_ ?_<;>intro h<;>simp (disch:=omega) only [Sh.out h,go_sem,seval]
  ·have hk2:k<l.length:=Za
   refine cD ?_ ?_<;>intro h2<;>simp (disch:=omega) only [Sh.out h2,go_sem,seval]
   ·have:nth l k=v:=by rw [XA];first | omega | (simp at h2;omega)
    have hm:v∈l:=this ▸ Zu hk2;simp [hm]
   ·have: ¬nth l k=v:=by rw [XA];first | omega | (simp at h2;omega)
    exact ⟨k+1,⟨Za,Zp.2 ⟨hno,this⟩⟩,Za,wk⟩
  ·have hkl:k=l.length:=Za
   subst hkl
   have hm:v ∉ l:=fun hm=>by
    obtain ⟨j,hj,e⟩:=ZN.1 hm;exact hno j hj (by rw [Zk hj];exact e)
   simp [hm]
theorem gI (l:List Itm) (c:Bool) (v:Itm) (hl:l.length<=1048576):PC 44 [.p (.list c (l.map Xe)),.p (Xe v)] (.bool (decide (v∈l))):=by
 refine Zc Tryz.func44 rfl Zhv ?_;simp (disch:=omega) only [Tryz.f44,go_sem,seval];refine Zl [0,3] (fun k:Nat=> [(5,.p (.int .i64 k))]) (fun _=> [.cells [.p (.int .i64 v.kind),.p (.int .i64 v.a)]]) (fun k=>k<=l.length/\ ∀j,j<k-> ¬nth l j=v) (fun k=>l.length-k) 0 Zb (Weak.mk ?_) ?_
 ·simp (disch:=omega) only [go_sem,seval]
 ·rintro k ⟨hk,hno⟩;simp (disch:=omega) only [go_sem,seval];refine cD ?_ ?_<;>intro h<;>simp (disch:=omega) only [Sh.out h,go_sem,seval]
  ·have hk2:k<l.length:=Za
   refine Xd ?_;simp (disch:=omega) only [go_sem,seval];refine cD ?_ ?_<;>intro h2<;>simp (disch:=omega) only [Sh.out h2,go_sem,seval]
   ·have:nth l k=v:=by rw [XA];first | omega | (simp at h2;omega)
    have hm:v∈l:=this ▸ Zu hk2;simp [hm]
   ·have: ¬nth l k=v:=by rw [XA];first | omega | (simp at h2;omega)
    exact ⟨k+1,⟨Za,Zp.2 ⟨hno,this⟩⟩,Za,wk⟩
  ·have hkl:k=l.length:=Za
   subst hkl
   have hm:v ∉ l:=fun hm=>by
    obtain ⟨j,hj,e⟩:=ZN.1 hm;exact hno j hj (by rw [Zk hj];exact e)
   simp [hm]
theorem N1 (l:List Itm) (c:Bool) (i:Nat) (hi:i<l.length) (hl:l.length<=1048576):PC 47 [.p (.list c (l.map Xe)),.p (.int .i64 i)] (.list false ((l.eraseIdx i).map Xe)):=by
 refine ACalls.frozen (S:=2) (n:=(l.eraseIdx i).length) Zb ?_
 suffices hh:ACalls Tryz.prog 47 [.p (.list c (l.map Xe)),.p (.int .i64 i)] [] fun y H'=> ∃m:List Itm,m=l.eraseIdx i/\y= .sl 0 0 m.length m.length/\H'= [.elems 2 (m.map Xe)] by
  refine hh.mono ?_;rintro x H' ⟨m,rfl,h1,h2⟩;exact ⟨h1,h2⟩
 have t1:(l.take i).length<=1048576:=by simp;omega
 have t2:(l.drop (i+1)).length<=1048576:=by simp;omega
 refine ZE [1] Tryz.func47 rfl Zhy ?_;simp (disch:=omega) only [Tryz.f47,go_sem,seval];refine YP (D6 2 rfl rfl ?_);simp (disch:=omega) only [go_sem,seval];refine ⟨_,_,TS 34 41 _ _ l.length 16 2 (.agg [.int .i64 0,.int .i64 0]) rfl Zg Zg Zg Zg Za (by rfl) (by rfl) Za Za (by simp (disch:=omega) only [go_sem,seval]) (by simp (disch:=omega) only [go_sem,seval]),?_⟩;simp (disch:=omega) only [go_sem,seval];refine Zh [] _ _ _ _ ?_;simp (disch:=omega) only [X3,go_sem,seval]
 refine ⟨l.eraseIdx i,rfl,0,?_⟩;rw [List.eraseIdx_eq_take_drop_succ];simp (disch:=omega) only [Xn,Zz,go_sem,seval]
theorem fB {l:List Itm} {i k:Nat} (h:k<l.length):(l.take (k+1)).eraseIdx i=(l.take k).eraseIdx i++if k=i then [] else [nth l k]:=by
 have hl:(l.take k).length=k:=by rw [Z6];omega
 rw [Xm h,<- Zk h];rcases Nat.lt_trichotomy k i with h1 | h1 | h1
 ·rw [if_neg Za,List.eraseIdx_of_length_le (by simp;omega),List.eraseIdx_of_length_le Za]
 ·subst h1;rw [if_pos rfl,Yt,List.eraseIdx_append_of_length_le Za,List.eraseIdx_of_length_le (by omega:(l.take k).length<=k),hl];simp
 ·rw [if_neg Za,List.eraseIdx_append_of_lt_length Za]
theorem iE (l:List Itm) (c:Bool) (i:Nat) (hi:i<l.length) (hl:l.length<=1048576):PC 49 [.p (.list c (l.map Xe)),.p (.int .i64 i)] (.list false ((l.eraseIdx i).map Xe)):=by
 refine ACalls.frozen (S:=2) (n:=(l.eraseIdx i).length) Zb ?_
 suffices hh:ACalls Tryz.prog 49 [.p (.list c (l.map Xe)),.p (.int .i64 i)] [] fun y H'=> ∃m:List Itm,m=l.eraseIdx i/\y= .sl 0 0 m.length m.length/\H'= [.elems 2 (m.map Xe)] by
  refine hh.mono ?_;rintro x H' ⟨m,rfl,h1,h2⟩;exact ⟨h1,h2⟩
 refine ZE [2] Tryz.func49 rfl ZhA ?_;simp (disch:=omega) only [Tryz.f49,go_sem,seval];refine Zo (Weak.ofNil 5 2 (by simp (disch:=omega) only [go_sem,seval]) Zb (Weak.refl _ _ _)) ?_;refine Zh [] _ _ _ _ ?_;simp (disch:=omega) only [go_sem,seval];refine Zl [0,1] (fun q:Nat×List Itm=> [(5,.sl 0 0 q.2.length q.2.length),(6,.p (.int .i64 q.1))]) (fun q=> [.elems 2 (q.2.map Xe)]) (fun q=>q.1<=l.length/\q.2=(l.take q.1).eraseIdx i) (fun q=>l.length-q.1) (0,[]) ⟨Zb,Zb⟩ (Weak.mk ?_) ?_
 ·simp (disch:=omega) only [go_sem,seval]
 ·rintro ⟨k,m⟩ ⟨hk,hm⟩;simp only at hk hm
  have hml:m.length<=k:=by
   have h1:=List.length_eraseIdx_le (l.take k) i;rw [<- hm,Z6] at h1;omega
  have hs:k<l.length->_:=fun h=>fB (l:=l) (i:=i) (k:=k) h;simp (disch:=omega) only [go_sem,seval];refine cD ?_ ?_<;>intro h<;>simp (disch:=omega) only [Sh.out h,go_sem,seval]
  ·have hk2:k<l.length:=Za
   have hs:=hs hk2;refine cD ?_ ?_<;>intro h2<;>simp (disch:=omega) only [Sh.out h2,go_sem,seval]
   ·have h3: ¬k=i:=Za
    exact ⟨(k+1,m++ [nth l k]),⟨by simp only;omega,by simp only [hs,if_neg h3,hm]⟩,by simp only;omega,wk⟩
   ·have h3:k=i:=Za
    exact ⟨(k+1,m),⟨by simp only;omega,by simp only [hs,if_pos h3,hm,Yt]⟩,by simp only;omega,wk⟩
  ·have hkl:k=l.length:=Za
   subst hkl;rw [X3] at hm;exact ⟨m,hm,0,by simp (disch:=omega) only [go_sem,seval]⟩
theorem Mq {α:Type} [Inhabited α] {p:α->Bool} {l:List α} {k:Nat} (h:k<l.length):(l.take (k+1)).filter p=(l.take k).filter p++if p (nth l k)=true then [nth l k] else []:=by
 rw [Xm h,List.filter_append,<- Zk h]
 congr 1
 rw [El]
 split<;>simp
theorem Ng (x:Inst) (l:List Itm):(FE x l).length<=(YN x 10).length:=Eh _ _
theorem Nh (x:Inst) (l:List Itm):AJ x (FE x l)=UG x l:=by rw [AJ,if_pos (FF x l)];rfl
theorem TA (x:Inst) (hx:InstOk x) (l:List Itm) (c:Bool) (hl:l.length<=1048576):PT 11 [.p (Zr x),.p (.list c (l.map Xe))] [.p (Zr (Kh x l)),.p (.int .i64 (WK x l))]:=by
 have hs:=UF hx;have hcap:=MK hx;have hrl:=V4 hs;have zI:Zr zeroI= .agg [.list true [],.list true [],.list true [],.list true [],.list true [],.list true []]:=rfl;refine Ze [10] Tryz.func11 rfl Zg8 ?_;simp (disch:=omega) only [Tryz.f11,go_sem,seval];refine ZV [10] [1,2,4,11,12] (fun k:Nat=> [(13,.p (.int .i64 k))]) (fun _=> [Zf x,Zf zeroI]) (fun k=>k<=l.length/\ ∀j,j<k->Ya x l j=0) (fun k=>l.length-k) 0 Zb (Weak.mk ?_) ?_
 ·simp (disch:=omega) only [Zf,zeroI,Zj,go_sem,seval]
 ·rintro k ⟨hk,hno⟩;simp (disch:=omega) only [Zf,zeroI,Zj,go_sem,seval];refine cD ?_ ?_<;>intro h<;>simp (disch:=omega) only [Sh.out h,go_sem,seval]
  ·have hk2:k<l.length:=Za
   refine (Rv x hs (nth l k)).use ?_;simp (disch:=omega) only [go_sem,seval];refine cD ?_ ?_<;>intro h2<;>simp (disch:=omega) only [Sh.out h2,zI,go_sem,seval]
   ·have h3:Yf x (nth l k)=false:=by simpa using h2
    have e0:Ya x l k=7:=by rw [Ya,h3];rfl
    have e:WK x l=7:=by rw [UE hk2 hno (by rw [e0];decide),e0]
    have r:Kh x l=zeroI:=by rw [Kh,e];rfl
    simp only [e,r,zeroI,Zj];exact we
   ·have h3:Yf x (nth l k)=true:=by simpa using h2
    refine Xd ?_;simp (disch:=omega) only [go_sem,seval];refine Zn (BC (l.take k) _ (nth l k) (by simp;omega)) ?_;simp (disch:=omega) only [go_sem,seval];refine cD ?_ ?_<;>intro h4<;>simp (disch:=omega) only [Sh.out h4,go_sem,seval]
    ·have e0:Ya x l k=6:=by rw [Ya,if_pos h3,if_pos h4]
     have e:WK x l=6:=by rw [UE hk2 hno (by rw [e0];decide),e0]
     have r:Kh x l=zeroI:=by rw [Kh,e];rfl
     simp only [e,r,zeroI,Zj];exact we
    ·exact ⟨k+1,⟨Za,Zp.2 ⟨hno,Wh.2 ⟨h3,h4⟩⟩⟩,Za,Weak.mk (by simp (disch:=omega) only [Zf,zeroI,Zj,go_sem,seval])⟩
  ·have hkl:k=l.length:=Za
   subst hkl;have e:WK x l=0:=BH hno
   have r:Kh x l=UG x l:=by rw [Kh,if_pos e]
   rw [e,r];have c1:=qW x hs hcap (FE x l) false (by have:=Ng x l;omega);rw [Nh,FF] at c1;have ho: ∀m,m<=(YN x 10).length->((YN x 10).take m).filter (fun v=>decide (v ∉ l))=((YN x 10).take m).filter (fun v=>decide (v ∉ l)):=fun _ _=>rfl;have c2:=IN x hs;have hout:FE x l=(YN x 10).filter fun v=>decide (v ∉ l):=rfl;rw [hout] at c1;generalize YN x 10=R at c1 c2 hrl;generalize UG x l=Y at c1;refine Zo (Weak.ofNil 8 2 (by simp (disch:=omega) only [go_sem,seval]) Zb (Weak.refl _ _ _)) ?_;refine Zh [16] _ _ _ _ ?_
   simp (disch:=omega) only [Zf,zeroI,Zj,go_sem,seval];refine (c2).use ?_;simp (disch:=omega) only [go_sem,seval];refine ZV [16] [1,2,4,31,32] (fun q:Nat×List Itm=> [(8,.sl 2 0 q.2.length q.2.length),(33,.p (.int .i64 q.1))]) (fun q=> [Zf x,Zf zeroI,.elems 2 (q.2.map Xe)]) (fun q=>q.1<=R.length/\q.2=(R.take q.1).filter fun v=>decide (v ∉ l)) (fun q=>R.length-q.1) (0,[]) ⟨Zb,Zb⟩ (Weak.mk ?_) ?_
   ·simp (disch:=omega) only [Zf,zeroI,Zj,go_sem,seval]
   ·rintro ⟨k,m⟩ ⟨hk,hm⟩;simp only at hk hm
    have hml:m.length<=k:=by
     have h1:=Eh (fun v=>decide (v ∉ l)) (R.take k);rw [<- hm,Z6] at h1;omega
    simp (disch:=omega) only [Zf,zeroI,Zj,go_sem,seval];refine cD ?_ ?_<;>intro h5<;>simp (disch:=omega) only [Sh.out h5,go_sem,seval]
    ·have hk2:k<R.length:=Za
     have hsu:=Mq (p:=fun v=>decide (v ∉ l)) hk2;refine (BC l c (nth R k) hl).use ?_;simp (disch:=omega) only [go_sem,seval];refine cD ?_ ?_<;>intro h6<;>simp (disch:=omega) only [Sh.out h6,go_sem,seval]
     ·exact ⟨(k+1,m++ [nth R k]),⟨by simp only;omega,by simp only [hsu,hm];rw [if_pos (by simpa using h6)]⟩,by simp only;omega,Weak.mk (by simp (disch:=omega) only [Zf,zeroI,Zj,go_sem,seval])⟩
     ·exact ⟨(k+1,m),⟨by simp only;omega,by simp only [hsu,hm];rw [if_neg (by simpa using h6),Yt]⟩,by simp only;omega,Weak.mk (by simp (disch:=omega) only [Zf,zeroI,Zj,go_sem,seval])⟩
    ·have hkl:k=R.length:=Za
     subst hkl;rw [X3] at hm;rw [<- hm] at c1;refine Zo (Weak.fz (o:=2) (by rfl)) ?_;refine Zh [] _ _ _ _ ?_;simp (disch:=omega) only [Zq,Zj,ZK,ZY,Zf,zeroI,go_sem,seval];refine Y5 c1 ?_;simp (disch:=omega) only [Zf,zeroI,Zj,go_sem,seval];exact we
theorem Pu (x:Inst) (hx:InstOk x) (l:List Itm) (c:Bool) (hl:l.length<=1048576):PT 15 [.p (Zr x),.p (.list c (l.map Xe))] [.p (Zr (Kh x l)),.p (.int .i64 (WK x l))]:=by
 have hs:=UF hx;have hcap:=MK hx;have hrl:=V4 hs;have zI:Zr zeroI= .agg [.list true [],.list true [],.list true [],.list true [],.list true [],.list true []]:=rfl;refine Ze [9] Tryz.func15 rfl Zhb ?_;simp (disch:=omega) only [Tryz.f15,go_sem,seval];refine ZV [9] [1,2,4] (fun k:Nat=> [(6,.p (.int .i64 k))]) (fun _=> [Zf x,Zf zeroI]) (fun k=>k<=l.length/\ ∀j,j<k->Ya x l j=0) (fun k=>l.length-k) 0 Zb (Weak.mk ?_) ?_
 ·simp (disch:=omega) only [Zf,zeroI,Zj,go_sem,seval]
 ·rintro k ⟨hk,hno⟩;simp (disch:=omega) only [Zf,zeroI,Zj,go_sem,seval];refine cD ?_ ?_<;>intro h<;>simp (disch:=omega) only [Sh.out h,go_sem,seval]
  ·have hk2:k<l.length:=Za
   refine Xd ?_;simp (disch:=omega) only [go_sem,seval];refine Zn (FS x hs (nth l k)) ?_;simp (disch:=omega) only [go_sem,seval];refine cD ?_ ?_<;>intro h2<;>simp (disch:=omega) only [Sh.out h2,zI,go_sem,seval]
   ·have h3:Yf x (nth l k)=false:=by simpa using h2
    have e0:Ya x l k=7:=by rw [Ya,h3];rfl
    have e:WK x l=7:=by rw [UE hk2 hno (by rw [e0];decide),e0]
    have r:Kh x l=zeroI:=by rw [Kh,e];rfl
    simp only [e,r,zeroI,Zj];exact we
   ·have h3:Yf x (nth l k)=true:=by simpa using h2
    refine Xd ?_;simp (disch:=omega) only [go_sem,seval];refine Zn (gI (l.take k) _ (nth l k) (by simp;omega)) ?_;simp (disch:=omega) only [go_sem,seval];refine cD ?_ ?_<;>intro h4<;>simp (disch:=omega) only [Sh.out h4,go_sem,seval]
    ·have e0:Ya x l k=6:=by rw [Ya,if_pos h3,if_pos h4]
     have e:WK x l=6:=by rw [UE hk2 hno (by rw [e0];decide),e0]
     have r:Kh x l=zeroI:=by rw [Kh,e];rfl
     simp only [e,r,zeroI,Zj];exact we
    ·exact ⟨k+1,⟨Za,Zp.2 ⟨hno,Wh.2 ⟨h3,h4⟩⟩⟩,Za,Weak.mk (by simp (disch:=omega) only [Zf,zeroI,Zj,go_sem,seval])⟩
  ·have hkl:k=l.length:=Za
   subst hkl;have e:WK x l=0:=BH hno
   have r:Kh x l=UG x l:=by rw [Kh,if_pos e]
   rw [e,r];have c1:=Ll x hs hcap (FE x l) false (by have:=Ng x l;omega);rw [Nh,FF] at c1;have c2:=No x hs;have hout:FE x l=(YN x 10).filter fun v=>decide (v ∉ l):=rfl;rw [hout] at c1;generalize YN x 10=R at c1 c2 hrl;generalize UG x l=Y at c1;refine Zo (Weak.ofNil 7 2 (by simp (disch:=omega) only [go_sem,seval]) Zb (Weak.refl _ _ _)) ?_;refine Zh [15] _ _ _ _ ?_;simp (disch:=omega) only [Zf,zeroI,Zj,go_sem,seval];refine (c2).use ?_;simp (disch:=omega) only [go_sem,seval];refine ZV [15] [1,2,4,8] (fun q:Nat×List Itm=> [(7,.sl 2 0 q.2.length q.2.length),(9,.p (.int .i64 q.1))]) (fun q=> [Zf x,Zf zeroI,.elems 2 (q.2.map Xe)]) (fun q=>q.1<=R.length/\q.2=(R.take q.1).filter fun v=>decide (v ∉ l)) (fun q=>R.length-q.1) (0,[]) ⟨Zb,Zb⟩ (Weak.mk ?_) ?_
   ·simp (disch:=omega) only [Zf,zeroI,Zj,go_sem,seval]
   ·rintro ⟨k,m⟩ ⟨hk,hm⟩;simp only at hk hm
    have hml:m.length<=k:=by
     have h1:=Eh (fun v=>decide (v ∉ l)) (R.take k);rw [<- hm,Z6] at h1;omega
    simp (disch:=omega) only [Zf,zeroI,Zj,go_sem,seval];refine cD ?_ ?_<;>intro h5<;>simp (disch:=omega) only [Sh.out h5,go_sem,seval]
    ·have hk2:k<R.length:=Za
     have hsu:=Mq (p:=fun v=>decide (v ∉ l)) hk2;refine (gI l c (nth R k) hl).use ?_;simp (disch:=omega) only [go_sem,seval];refine cD ?_ ?_<;>intro h6<;>simp (disch:=omega) only [Sh.out h6,go_sem,seval]
     ·exact ⟨(k+1,m++ [nth R k]),⟨by simp only;omega,by simp only [hsu,hm];rw [if_pos (by simpa using h6)]⟩,by simp only;omega,Weak.mk (by simp (disch:=omega) only [Zf,zeroI,Zj,go_sem,seval])⟩
     ·exact ⟨(k+1,m),⟨by simp only;omega,by simp only [hsu,hm];rw [if_neg (by simpa using h6),Yt]⟩,by simp only;omega,Weak.mk (by simp (disch:=omega) only [Zf,zeroI,Zj,go_sem,seval])⟩
    ·have hkl:k=R.length:=Za
     subst hkl;rw [X3] at hm;rw [<- hm] at c1;refine Zo (Weak.fz (o:=2) (by rfl)) ?_;refine Zh [] _ _ _ _ ?_;simp (disch:=omega) only [Zq,Zj,ZK,ZY,Zf,zeroI,go_sem,seval];refine Y5 c1 ?_;simp (disch:=omega) only [Zf,zeroI,Zj,go_sem,seval];exact we
theorem Zi3 (x:Inst) (hx:InstOk x) (hn:x.orders.length<=4):ACalls Tryz.prog 43 [.p (Zr x)] [] fun y H'=> ∃p c e,(c=DZ x/\e=WG x)/\y= .tup [.p (Jy p),.p (.int .i64 c),.p (.int .i64 e)]/\H'= []:=by
 have hs:=UF hx;refine (lA x hx hn (by have:=hs.be;omega) (by have:=hs.ap;omega)).mono fun y H' h=> ?_;obtain ⟨p,_,rfl,rfl⟩:=h;exact ⟨p,_,_,⟨rfl,rfl⟩,rfl,rfl⟩
theorem Zi4 (x:Inst) (hx:InstOk x) (hn:x.orders.length<=4):ACalls Tryz.prog 24 [.p (Zr x)] [] fun y H'=> ∃p c e,(c=DZ x/\e=WG x)/\y= .tup [.p (Jy p),.p (.int .i64 c),.p (.int .i64 e)]/\H'= []:=by
 have hs:=UF hx;refine (lB x hx hn (by have:=hs.be;omega)).mono fun y H' h=> ?_;obtain ⟨p,_,rfl,rfl⟩:=h;exact ⟨p,_,_,⟨rfl,rfl⟩,rfl,rfl⟩
theorem Pe (x:Inst) (hx:InstOk x) (hn:x.orders.length<=4):PT 14 [.p (Zr x)] [.p (.bool (decide (WG x=0))),.p (.int .i64 0)]:=by
 have c1:=Zi3 x hx hn;have h:=J2 hx hn;generalize WG x=e at c1 h;generalize DZ x=c at c1;refine Ze [] Tryz.func14 rfl Zha ?_;simp (disch:=omega) only [Tryz.f14,go_sem,seval];refine LC c1 fun p c' e' hR=> ?_;obtain ⟨rfl,rfl⟩:=hR;rcases h with rfl | rfl
 ·simp (disch:=omega) only [go_sem,seval];exact we
 ·simp (disch:=omega) only [go_sem,seval];exact we
theorem Pf (x:Inst) (hx:InstOk x) (hn:x.orders.length<=4):PT 52 [.p (Zr x)] [.p (.bool (decide (WG x=0))),.p (.int .i64 0)]:=by
 have c1:=Zi4 x hx hn;have h:=J2 hx hn;generalize WG x=e at c1 h;generalize DZ x=c at c1;refine Ze [] Tryz.func52 rfl ZhD ?_;simp (disch:=omega) only [Tryz.f52,go_sem,seval];refine LC c1 fun p c' e' hR=> ?_;obtain ⟨rfl,rfl⟩:=hR;rcases h with rfl | rfl
 ·simp (disch:=omega) only [go_sem,seval];exact we
 ·simp (disch:=omega) only [go_sem,seval];exact we
noncomputable def OE (x:Inst) (l:List Itm):Bool:=decide (WK x l=0)&&decide (WG (UG x l)=24)
noncomputable def OW (x:Inst) (l:List Itm):Bool:=decide (WK x l=0)&&decide (WG (UG x l)=0)
theorem oJ (x:Inst) (hx:InstOk x) (hn:x.orders.length<=4) (l:List Itm) (c:Bool) (hl:l.length<=1048576):PT 46 [.p (Zr x),.p (.list c (l.map Xe))] [.p (.bool (OE x l)),.p (.int .i64 (WK x l))]:=by
 have c1:=TA x hx l c hl;have c2:=Pe (UG x l) (IP hx) (by rw [Fk];exact hn);have h:=Fm hx hn l;refine Ze [] Tryz.func46 rfl Zhx ?_;simp (disch:=omega) only [Tryz.f46,go_sem,seval];refine Y5 c1 ?_;simp (disch:=omega) only [go_sem,seval]
 by_cases e0:WK x l=0
 ·have k:Kh x l=UG x l:=by rw [Kh,if_pos e0]
  have b:OE x l=decide (WG (UG x l)=24):=by rw [OE,e0];rfl
  rw [k,e0,b];generalize UG x l=Y at c2 h;generalize WG Y=s at c2 h;simp (disch:=omega) only [go_sem,seval];refine Y5 c2 ?_;rcases h with rfl | rfl
  ·simp (disch:=omega) only [go_sem,seval];exact we
  ·simp (disch:=omega) only [go_sem,seval];exact we
 ·have b:OE x l=false:=by rw [OE,U1 e0];rfl
  rw [b];refine cD ?_ ?_<;>intro h1<;>simp (disch:=omega) only [Sh.out h1,go_sem,seval]
  ·exact we
  ·exact absurd (Z4.1 h1) e0
theorem ZbH (x:Inst) (hx:InstOk x) (hn:x.orders.length<=4) (l:List Itm) (c:Bool) (hl:l.length<=1048576):PT 48 [.p (Zr x),.p (.list c (l.map Xe))] [.p (.bool (OW x l)),.p (.int .i64 (WK x l))]:=by
 have c1:=Pu x hx l c hl;have c2:=Pf (UG x l) (IP hx) (by rw [Fk];exact hn);have h:=Fm hx hn l;refine Ze [] Tryz.func48 rfl Zhz ?_;simp (disch:=omega) only [Tryz.f48,go_sem,seval];refine Y5 c1 ?_;simp (disch:=omega) only [go_sem,seval]
 by_cases e0:WK x l=0
 ·have k:Kh x l=UG x l:=by rw [Kh,if_pos e0]
  have b:OW x l=decide (WG (UG x l)=0):=by rw [OW,e0];rfl
  rw [k,e0,b];generalize UG x l=Y at c2 h;generalize WG Y=s at c2 h;simp (disch:=omega) only [go_sem,seval];refine Y5 c2 ?_;simp (disch:=omega) only [go_sem,seval];exact we
 ·have b:OW x l=false:=by rw [OW,U1 e0];rfl
  rw [b];refine cD ?_ ?_<;>intro h1<;>simp (disch:=omega) only [Sh.out h1,go_sem,seval]
  ·exact we
  ·exact absurd (Z4.1 h1) e0
theorem Hp {x:Inst} {l:List Itm} {k:Nat} (h:k<l.length):Cf x (l.length-k) l k=if WG (UG x (l.eraseIdx k))=24 then Cf x ((l.eraseIdx k).length-k) (l.eraseIdx k) k else Cf x (l.length-(k+1)) l (k+1):=by
 have hl:(l.eraseIdx k).length=l.length-1:=by rw [List.length_eraseIdx,if_pos h]
 rw [hl,show l.length-k=(l.length-(k+1))+1 by omega,Cf,if_pos h,show l.length-1-k=l.length-(k+1) by omega]
theorem Ho {x:Inst} {l:List Itm} :Cf x (l.length-l.length) l l.length=l:=by rw [Ai,Cf]
theorem Rn {l m:List Itm} (h:l.Sublist m) (k:Nat):(l.eraseIdx k).Sublist m:=(List.eraseIdx_sublist l k).trans h
theorem TI (x:Inst) (hx:InstOk x) (hn:x.orders.length<=4):PT 27 [.p (Zr x)] [.p (.list (decide (WG x=0)) ((JX x).map Xe)),.p (.int .i64 (Ky x))]:=by
 have c1:=Pe x hx hn;have c2:=IN x (UF hx);have hrl:=V4 (UF hx);have h:=J2 hx hn;refine Ze [] Tryz.func27 rfl Zhi ?_;simp (disch:=omega) only [Tryz.f27,go_sem,seval];refine Y5 c1 ?_;rcases h with h | h
 ·have e1:JX x= []:=by rw [JX,h];rfl
  have e2:Ky x=9:=by rw [Ky,h];rfl
  rw [e1,e2,h];simp (disch:=omega) only [go_sem,seval];exact we
 ·have e1:JX x=iP x:=by rw [JX,if_pos h]
  have e2:Ky x=0:=by rw [Ky,if_pos h]
  rw [e1,e2,h];simp (disch:=omega) only [go_sem,seval];refine (c2).use ?_;simp (disch:=omega) only [go_sem,seval];refine Zl [1] (fun q:Nat×List Itm=> [(6,.p (.list false (q.2.map Xe))),(7,.p (.int .i64 q.1))]) (fun _=> [Zf x]) (fun q=>q.1<=q.2.length/\q.2.Sublist (YN x 10)/\Cf x (q.2.length-q.1) q.2 q.1=iP x) (fun q=>q.2.length-q.1) (0,YN x 10) ⟨Zb,List.Sublist.refl _,rfl⟩ (Weak.mk ?_) ?_
  ·simp (disch:=omega) only [Zf,go_sem,seval]
  ·rintro ⟨k,l⟩ ⟨hk,hsub,hm⟩;simp only at hk hsub hm;have hll:=hsub.length_le;simp (disch:=omega) only [Zf,go_sem,seval];refine cD ?_ ?_<;>intro h1<;>simp (disch:=omega) only [Sh.out h1,go_sem,seval]
   ·have hk2:k<l.length:=Za
    have hst:=Hp (x:=x) hk2;rw [hm] at hst
    have hel:(l.eraseIdx k).length=l.length-1:=by rw [List.length_eraseIdx,if_pos hk2]
    have hes:=Rn hsub k
    have hb:OE x (l.eraseIdx k)=decide (WG (UG x (l.eraseIdx k))=24):=by rw [OE,Cw hes];rfl
    refine (N1 l false k hk2 Za).use ?_;simp (disch:=omega) only [go_sem,seval];have c3:=oJ x hx hn (l.eraseIdx k) false Za;rw [Cw hes,hb] at c3;refine Y5 c3 ?_;simp (disch:=omega) only [go_sem,seval];refine cD ?_ ?_<;>intro h2<;>simp (disch:=omega) only [Sh.out h2,go_sem,seval]
    ·rw [if_pos h2] at hst;exact ⟨(k,l.eraseIdx k),⟨by simp only;omega,hes,hst.symm⟩,by simp only;omega,Weak.mk (by simp (disch:=omega) only [Zf,go_sem,seval])⟩
    ·rw [if_neg h2] at hst;exact ⟨(k+1,l),⟨by simp only;omega,hsub,hst.symm⟩,by simp only;omega,Weak.mk (by simp (disch:=omega) only [Zf,go_sem,seval])⟩
   ·have hkl:k=l.length:=Za
    subst hkl;rw [Ho] at hm;rw [<- hm];exact we
theorem Pv (x:Inst) (hx:InstOk x) (hn:x.orders.length<=4):PT 53 [.p (Zr x)] [.p (.list (decide (WG x=0)) ((JX x).map Xe)),.p (.int .i64 (Ky x))]:=by
 have c1:=Pf x hx hn;have c2:=No x (UF hx);have hrl:=V4 (UF hx);have h:=J2 hx hn;refine Ze [] Tryz.func53 rfl ZhE ?_;simp (disch:=omega) only [Tryz.f53,go_sem,seval];refine Y5 c1 ?_;rcases h with h | h
 ·have e1:JX x= []:=by rw [JX,h];rfl
  have e2:Ky x=9:=by rw [Ky,h];rfl
  rw [e1,e2,h];simp (disch:=omega) only [go_sem,seval];exact we
 ·have e1:JX x=iP x:=by rw [JX,if_pos h]
  have e2:Ky x=0:=by rw [Ky,if_pos h]
  rw [e1,e2,h];simp (disch:=omega) only [go_sem,seval];refine (c2).use ?_;simp (disch:=omega) only [go_sem,seval];refine Zl [1] (fun q:Nat×List Itm=> [(6,.p (.list false (q.2.map Xe))),(7,.p (.int .i64 q.1))]) (fun _=> [Zf x]) (fun q=>q.1<=q.2.length/\q.2.Sublist (YN x 10)/\Cf x (q.2.length-q.1) q.2 q.1=iP x) (fun q=>q.2.length-q.1) (0,YN x 10) ⟨Zb,List.Sublist.refl _,rfl⟩ (Weak.mk ?_) ?_
  ·simp (disch:=omega) only [Zf,go_sem,seval]
  ·rintro ⟨k,l⟩ ⟨hk,hsub,hm⟩;simp only at hk hsub hm;have hll:=hsub.length_le;simp (disch:=omega) only [Zf,go_sem,seval];refine cD ?_ ?_<;>intro h1<;>simp (disch:=omega) only [Sh.out h1,go_sem,seval]
   ·have hk2:k<l.length:=Za
    have hst:=Hp (x:=x) hk2;rw [hm] at hst
    have hel:(l.eraseIdx k).length=l.length-1:=by rw [List.length_eraseIdx,if_pos hk2]
    have hes:=Rn hsub k;have he:=Fm hx hn (l.eraseIdx k)
    have hb:OW x (l.eraseIdx k)=decide (WG (UG x (l.eraseIdx k))=0):=by rw [OW,Cw hes];rfl
    refine (iE l false k hk2 Za).use ?_;simp (disch:=omega) only [go_sem,seval];have c3:=ZbH x hx hn (l.eraseIdx k) false Za;rw [Cw hes,hb] at c3;refine Y5 c3 ?_;simp (disch:=omega) only [go_sem,seval];refine cD ?_ ?_<;>intro h2<;>simp (disch:=omega) only [Sh.out h2,go_sem,seval]
    ·rw [if_neg Za] at hst;exact ⟨(k+1,l),⟨by simp only;omega,hsub,hst.symm⟩,by simp only;omega,Weak.mk (by simp (disch:=omega) only [Zf,go_sem,seval])⟩
    ·rw [if_pos Za] at hst;exact ⟨(k,l.eraseIdx k),⟨by simp only;omega,hes,hst.symm⟩,by simp only;omega,Weak.mk (by simp (disch:=omega) only [Zf,go_sem,seval])⟩
   ·have hkl:k=l.length:=Za
    subst hkl;rw [Ho] at hm;rw [<- hm];exact we
def WR (x:Inst) (i:Int):Int:=if i<0\/(x.orders.length:Int)<=i then 7 else if (nth x.orders i.toNat).off=true then 9 else 0
theorem Dd {x:Inst} {i:Int} (h:WR x i=0):0<=i/\i.toNat<x.orders.length/\(nth x.orders i.toNat).off=false:=by
 unfold WR at h
 split at h
 ·simp at h
 ·split at h
  ·simp at h
  ·rename_i h1 h2;exact ⟨Za,Za,by simpa using h2⟩
def Qh (z x:Inst) (i:Int):Inst:=if WR x i=0 then Vt x i.toNat else z
theorem iV (x:Inst) (i:Int) (ho:x.orders.length<=1048576):PT 51 [.p (Zr x),.p (.int .i64 i)] [.p (Zr (Qh zeroI x i)),.p (.int .i64 (WR x i))]:=by
 have zI:Zr zeroI= .agg [.list true [],.list true [],.list true [],.list true [],.list true [],.list true []]:=rfl;refine Ze [7] Tryz.func51 rfl ZhC ?_;simp (disch:=omega) only [Tryz.f51,go_sem,seval];refine gF ?_ ?_<;>intro h1<;>simp (disch:=omega) only [Sh.out h1,go_sem,seval]
 ·have e:WR x i=7:=by rw [WR,if_pos Za]
  have v:Qh zeroI x i=zeroI:=by rw [Qh,e];rfl
  rw [e,v];simp only [zeroI,Zj];exact we
 ·refine cD ?_ ?_<;>intro h2<;>simp (disch:=omega) only [Sh.out h2,go_sem,seval]
  ·have e:WR x i=7:=by rw [WR,if_pos Za]
   have v:Qh zeroI x i=zeroI:=by rw [Qh,e];rfl
   rw [e,v];simp only [zeroI,Zj];exact we
  ·have hi:i.toNat<x.orders.length:=Za
   have n1: ¬(i<0\/(x.orders.length:Int)<=i):=Za
   refine cD ?_ ?_<;>intro h3<;>simp (disch:=omega) only [Sh.out h3,go_sem,seval]
   ·have e:WR x i=9:=by rw [WR,if_neg n1,if_pos h3]
    have v:Qh zeroI x i=zeroI:=by rw [Qh,e];rfl
    rw [e,v];simp only [zeroI,Zj];exact we
   ·have e:WR x i=0:=by rw [WR,if_neg n1,if_neg (by rw [h3];simp)]
    obtain ⟨os,hos⟩: ∃os,os=x.orders.set i.toNat { nth x.orders i.toNat with penalty:= -1 } :=⟨_,rfl⟩
    have v:Qh zeroI x i= { x with orders_c:=false,orders:=os } :=by rw [Qh,if_pos e,Vt,hos]
    have ZJ:(x.orders.map eOrd).set i.toNat (eOrd { nth x.orders i.toNat with penalty:= -1 })=os.map eOrd:=by rw [hos,Up]
    have hml:(x.orders.map eOrd).length=x.orders.length:=Zy ..;have hel:Kg (x.orders.map eOrd) i.toNat=eOrd (nth x.orders i.toNat):=Ve hi;simp only [Rl] at ZJ
    have hsl:os.length=x.orders.length:=by rw [hos];exact Vk ..
    rw [e,v];refine (AN x.orders x.orders_c ho).useF ?_;simp (disch:=omega) only [go_sem,seval];simp only [ZJ];rw [<- hsl];refine Zo (Weak.fz (o:=2) (by rfl)) ?_;refine Zh [] _ _ _ _ ?_;simp (disch:=omega) only [Zq,Zj,ZK,ZY,go_sem,seval];exact we
theorem rA (x:Inst) (i:Int) (ho:x.orders.length<=1048576):PT 23 [.p (Zr x),.p (.int .i64 i)] [.p (Zr (Qh x x i)),.p (.int .i64 (WR x i))]:=by
 refine Ze [6,8] Tryz.func23 rfl Zhg ?_;simp (disch:=omega) only [Tryz.f23,go_sem,seval];refine gF ?_ ?_<;>intro h1<;>simp (disch:=omega) only [Sh.out h1,go_sem,seval]
 ·have e:WR x i=7:=by rw [WR,if_pos Za]
  have v:Qh x x i=x:=by rw [Qh,e];rfl
  rw [e,v];exact we
 ·refine cD ?_ ?_<;>intro h2<;>simp (disch:=omega) only [Sh.out h2,go_sem,seval]
  ·have e:WR x i=7:=by rw [WR,if_pos Za]
   have v:Qh x x i=x:=by rw [Qh,e];rfl
   rw [e,v];exact we
  ·have hi:i.toNat<x.orders.length:=Za
   have n1: ¬(i<0\/(x.orders.length:Int)<=i):=Za
   refine cD ?_ ?_<;>intro h3<;>simp (disch:=omega) only [Sh.out h3,go_sem,seval]
   ·have e:WR x i=9:=by rw [WR,if_neg n1,if_pos h3]
    have v:Qh x x i=x:=by rw [Qh,e];rfl
    rw [e,v];exact we
   ·have e:WR x i=0:=by rw [WR,if_neg n1,if_neg (by rw [h3];simp)]
    obtain ⟨os,hos⟩: ∃os,os=x.orders.set i.toNat { nth x.orders i.toNat with penalty:= -1 } :=⟨_,rfl⟩
    have v:Qh x x i= { x with orders_c:=false,orders:=os } :=by rw [Qh,if_pos e,Vt,hos]
    have ZJ:(x.orders.map eOrd).set i.toNat (eOrd { nth x.orders i.toNat with penalty:= -1 })=os.map eOrd:=by rw [hos,Up]
    have hml:(x.orders.map eOrd).length=x.orders.length:=Zy ..;have hel:Kg (x.orders.map eOrd) i.toNat=eOrd (nth x.orders i.toNat):=Ve hi;simp only [Rl] at ZJ
    have hsl:os.length=x.orders.length:=by rw [hos];exact Vk ..
    rw [e,v];refine Zo (Weak.ofNil 6 16 (by simp (disch:=omega) only [go_sem,seval]) Zb (Weak.refl _ _ _)) ?_;refine Zh [8] _ _ _ _ ?_;simp (disch:=omega) only [go_sem,seval];simp only [ZJ];rw [<- hsl];refine Zo (Weak.fz (o:=2) (by rfl)) ?_;refine Zh [] _ _ _ _ ?_;simp (disch:=omega) only [Zq,Zj,ZK,ZY,go_sem,seval];exact we
noncomputable def CO (x:Inst) (i:Int):List Itm:=if WR x i=0 then JX (Vt x i.toNat) else []
noncomputable def GK (x:Inst) (i:Int):Int:=if WR x i=0 then Ky (Vt x i.toNat) else WR x i
noncomputable def D1 (x:Inst) (i:Int):Bool:=decide (WR x i≠0)||decide (WG (Vt x i.toNat)=0)
theorem RW {x:Inst} {i:Nat} :(Vt x i).orders.length=x.orders.length:=Vk ..
theorem ZjQ (x:Inst) (hx:InstOk x) (hn:x.orders.length<=4) (i:Int):PT 20 [.p (Zr x),.p (.int .i64 i)] [.p (.list (D1 x i) ((CO x i).map Xe)),.p (.int .i64 (GK x i))]:=by
 have c1:=iV x i Za;refine Ze [] Tryz.func20 rfl tO ?_;simp (disch:=omega) only [Tryz.f20,go_sem,seval];refine Y5 c1 ?_;simp (disch:=omega) only [go_sem,seval]
 by_cases e0:WR x i=0
 ·obtain ⟨h1,h2,h3⟩:=Dd e0;have hy:=O2 hx h2
  have hyn:(Vt x i.toNat).orders.length<=4:=by rw [RW];exact hn
  have c2:=Pe _ hy hyn;have c3:=TI _ hy hyn;have he:=J2 hy hyn
  have v1:Qh zeroI x i=Vt x i.toNat:=by rw [Qh,if_pos e0]
  have v2:CO x i=JX (Vt x i.toNat):=by rw [CO,if_pos e0]
  have v3:GK x i=Ky (Vt x i.toNat):=by rw [GK,if_pos e0]
  have v4:D1 x i=decide (WG (Vt x i.toNat)=0):=by rw [D1,e0];rfl
  rw [v1,v2,v3,v4,e0];generalize Vt x i.toNat=Y at c2 c3 he;simp (disch:=omega) only [go_sem,seval];refine Y5 c2 ?_;rcases he with h | h
  ·have e1:JX Y= []:=by rw [JX,h];rfl
   have e2:Ky Y=9:=by rw [Ky,h];rfl
   rw [e1,e2,h];simp (disch:=omega) only [go_sem,seval];exact we
  ·rw [h] at c3 ⊢;simp (disch:=omega) only [go_sem,seval];refine Y5 c3 ?_;simp (disch:=omega) only [go_sem,seval];exact we
 ·have v2:CO x i= []:=by rw [CO,if_neg e0]
  have v3:GK x i=WR x i:=by rw [GK,if_neg e0]
  have v4:D1 x i=true:=by rw [D1,Un e0];rfl
  rw [v2,v3,v4];refine cD ?_ ?_<;>intro h1<;>simp (disch:=omega) only [Sh.out h1,go_sem,seval]
  ·exact we
  ·exact absurd (Z4.1 h1) e0
theorem Zcd (x:Inst) (hx:InstOk x) (hn:x.orders.length<=4) (i:Int):PT 21 [.p (Zr x),.p (.int .i64 i)] [.p (.list (D1 x i) ((CO x i).map Xe)),.p (.int .i64 (GK x i))]:=by
 have c1:=rA x i Za;refine Ze [] Tryz.func21 rfl Zhe ?_;simp (disch:=omega) only [Tryz.f21,go_sem,seval];refine Y5 c1 ?_;simp (disch:=omega) only [go_sem,seval]
 by_cases e0:WR x i=0
 ·obtain ⟨h1,h2,h3⟩:=Dd e0;have hy:=O2 hx h2
  have hyn:(Vt x i.toNat).orders.length<=4:=by rw [RW];exact hn
  have c2:=Pf _ hy hyn;have c3:=Pv _ hy hyn;have he:=J2 hy hyn
  have v1:Qh x x i=Vt x i.toNat:=by rw [Qh,if_pos e0]
  have v2:CO x i=JX (Vt x i.toNat):=by rw [CO,if_pos e0]
  have v3:GK x i=Ky (Vt x i.toNat):=by rw [GK,if_pos e0]
  have v4:D1 x i=decide (WG (Vt x i.toNat)=0):=by rw [D1,e0];rfl
  rw [v1,v2,v3,v4,e0];generalize Vt x i.toNat=Y at c2 c3 he;simp (disch:=omega) only [go_sem,seval];refine Y5 c2 ?_;rcases he with h | h
  ·have e1:JX Y= []:=by rw [JX,h];rfl
   have e2:Ky Y=9:=by rw [Ky,h];rfl
   rw [e1,e2,h];simp (disch:=omega) only [go_sem,seval];exact we
  ·rw [h] at c3 ⊢;simp (disch:=omega) only [go_sem,seval];refine Y5 c3 ?_;simp (disch:=omega) only [go_sem,seval];exact we
 ·have v2:CO x i= []:=by rw [CO,if_neg e0]
  have v3:GK x i=WR x i:=by rw [GK,if_neg e0]
  have v4:D1 x i=true:=by rw [D1,Un e0];rfl
  rw [v2,v3,v4];refine cD ?_ ?_<;>intro h1<;>simp (disch:=omega) only [Sh.out h1,go_sem,seval]
  ·exact we
  ·exact absurd (Z4.1 h1) e0
theorem Tv (a b:List Itm) (c d:Bool) (ha:a.length<=1048576) (hb:b.length<=1048576):PC 22 [.p (.list c (a.map Xe)),.p (.list d (b.map Xe))] (.bool (decide (a=b))):=by
 refine Zc Tryz.func22 rfl Zhf ?_;simp (disch:=omega) only [Tryz.f22,go_sem,seval];refine cD ?_ ?_<;>intro h<;>simp (disch:=omega) only [Sh.out h,go_sem,seval]
 ·have: ¬a=b:=fun e=>h (by rw [e]);simp [this]
 ·have hab:a.length=b.length:=Za
  refine Zl [0,1] (fun k:Nat=> [(5,.p (.int .i64 k))]) (fun _=> []) (fun k=>k<=a.length/\ ∀j,j<k->nth a j=nth b j) (fun k=>a.length-k) 0 Zb (Weak.mk ?_) ?_
  ·simp (disch:=omega) only [go_sem,seval]
  ·rintro k ⟨hk,hno⟩;simp (disch:=omega) only [go_sem,seval];refine cD ?_ ?_<;>intro h2<;>simp (disch:=omega) only [Sh.out h2,go_sem,seval]
   ·have hk2:k<a.length:=Za
    have hk3:k<b.length:=Za
    refine Xd ?_;simp (disch:=omega) only [go_sem,seval];refine cD ?_ ?_<;>intro h3<;>simp (disch:=omega) only [Sh.out h3,go_sem,seval]
    ·have h4: ¬nth a k=nth b k:=fun e=>by rw [XA] at e;exact h3 e
     have: ¬a=b:=fun e=>h4 (by rw [e]);simp [this]
    ·have h4:nth a k=nth b k:=by rw [XA];exact Z4.1 h3
     exact ⟨k+1,⟨Za,Zp.2 ⟨hno,h4⟩⟩,Za,wk⟩
   ·have hkl:k=a.length:=Za
    have:a=b:=QR hab fun i h1 h2=>by
     have:=hno i Za;rwa [Zk h1,Zk h2] at this
    simp [this]
theorem ZgP (x:Inst) (n:Int): ∃b:Bool,b=true↔Gl x n:=by
 classical
 exact ⟨decide (Gl x n),Zb⟩
theorem Fs {x:Inst} : ∀(f:Nat) (l:List Itm) (k:Nat),(Cf x f l k).length<=l.length
 | 0,l,k=>by rw [Cf];exact ZI _
 | f+1,l,k=>by
  rw [Cf]
  split
  ·split
   ·exact JM (Fs f _ _) (List.length_eraseIdx_le l k)
   ·exact Fs f _ _
  ·exact ZI _
theorem iL {x:Inst} :(JX x).length<=(YN x 10).length:=by
 unfold JX
 split
 ·exact Fs _ _ _
 ·simp
theorem lR {x:Inst} (hx:InstOk x) (hn:x.orders.length<=4) (i:Int):(CO x i).length<=1048576:=by
 unfold CO
 split
 ·rename_i h;have hy:=O2 hx (Dd h).2.1;have h1:=iL (x:=Vt x i.toNat);have h2:=V4 (UF hy);omega
 ·simp
theorem TE (haw:PC 19 [] (.bool true)) (x:Inst) (hw:x.wf 1048576) (i:Int) :
  PC 5 [.p (Zr x),.p (.int .i64 i)] (.bool true):=by
 obtain ⟨b,hb⟩:=ZgP x 2;refine Ux [] Tryz.func5 rfl ZmA ?_;simp (disch:=omega) only [Tryz.f5,go_sem,seval];refine (Tg x hw 2 b hb).use ?_;simp (disch:=omega) only [go_sem,seval]
 cases b with
 | false =>
  simp (disch:=omega) only [WE,go_sem,seval];refine (haw).use ?_;simp (disch:=omega) only [go_sem,seval]
 | true =>
  simp (disch:=omega) only [Yu,go_sem,seval];obtain ⟨h1,_,_,_,_,_,hx⟩:=hb.1 rfl
  have hn:x.orders.length<=4:=Za
  have hl:=lR hx hn i;refine Y5 (ZjQ x hx hn i) ?_;simp (disch:=omega) only [go_sem,seval];refine Y5 (Zcd x hx hn i) ?_;simp (disch:=omega) only [eq_self,WU,go_sem,seval];refine (Tv (CO x i) (CO x i) (D1 x i) (D1 x i) hl hl).use ?_;simp (disch:=omega) only [go_sem,seval]
  try simp (disch:=omega) only [eq_self,WU,go_sem,seval]
  refine (haw).use ?_;simp (disch:=omega) only [go_sem,seval]
  try simp
theorem iG (x:Inst) (hs:ISz x) (g:Itm->List UInt8) (l:List Itm) (c:Bool) (hl:l.length<=1000) (h1: ∀v∈l,Yf x v=true->PC 83 [.p (Zr x),.p (Xe v)] (.str (g v)))
  (h0: ∀v∈l,Yf x v=false->g v= [117,110,107,110,111,119,110]):PC 50 [.p (Zr x),.p (.list c (l.map Xe))] (.list false ((l.map g).map eS)):=by
 refine ACalls.frozen (S:=1) (n:=(l.map g).length) Zb ?_
 suffices hh:ACalls Tryz.prog 50 [.p (Zr x),.p (.list c (l.map Xe))] [] fun y H'=> ∃m:List (List UInt8),m=l.map g/\y= .sl 0 0 m.length m.length/\H'= [.elems 1 (m.map eS)] by
  refine hh.mono ?_;rintro x H' ⟨m,rfl,h1,h2⟩;exact ⟨h1,h2⟩
 refine ZE [2] Tryz.func50 rfl ZhB ?_;simp (disch:=omega) only [Tryz.f50,go_sem,seval];refine Zo (Weak.ofNil 5 1 (by simp (disch:=omega) only [go_sem,seval]) Zb (Weak.refl _ _ _)) ?_;refine Zh [] _ _ _ _ ?_;simp (disch:=omega) only [go_sem,seval];refine Zl [2,8,9] (fun q:Nat×List (List UInt8)=> [(5,.sl 1 0 q.2.length q.2.length),(10,.p (.int .i64 q.1))]) (fun q=> [Zf x,.elems 1 (q.2.map eS)]) (fun q=>q.1<=l.length/\q.2=(l.take q.1).map g) (fun q=>l.length-q.1) (0,[]) ⟨Zb,Zb⟩ (Weak.mk ?_) ?_
 ·simp (disch:=omega) only [Zf,go_sem,seval]
 ·rintro ⟨k,m⟩ ⟨hk,hm⟩;simp only at hk hm
  have hml:m.length=k:=by rw [hm];simp;omega
  have hh:=Rv x hs (nth l k);simp (disch:=omega) only [Zf,go_sem,seval];refine cD ?_ ?_<;>intro h<;>simp (disch:=omega) only [Sh.out h,go_sem,seval]
  ·have hk2:k<l.length:=Za
   have hmm:=Zu hk2
   have hsn:(l.take (k+1)).map g=m++ [g (nth l k)]:=by rw [hm,Xm hk2,Zk hk2,Xn,Zq,Zj]
   cases hv:Yf x (nth l k) with
   | true =>
    rw [hv] at hh;refine (hh).use ?_;simp (disch:=omega) only [go_sem,seval];refine (h1 _ hmm hv).use ?_;simp (disch:=omega) only [go_sem,seval];exact ⟨(k+1,m++ [g (nth l k)]),⟨by simp only;omega,by simp only [hsn]⟩,by simp only;omega,Weak.mk (by simp (disch:=omega) only [Zf,go_sem,seval])⟩
   | false =>
    have e:=h0 _ hmm hv;rw [hv] at hh;refine (hh).use ?_;simp (disch:=omega) only [go_sem,seval];exact ⟨(k+1,m++ [g (nth l k)]),⟨by simp only;omega,by simp only [hsn]⟩,by simp only;omega,Weak.mk (by simp (disch:=omega) only [Zf,e,go_sem,seval])⟩
  ·have hkl:k=l.length:=Za
   subst hkl;exact ⟨m,by rw [hm,X3],1,by simp (disch:=omega) only [Zf,go_sem,seval]⟩
def exbX : Inst:= { net:= { places_c:=false,places:= [[72,117,98]],arcs_c:=true,arcs:= [] },types_c:=false,types:= [{ name:= [97],count:=1,src:=0,dst:=0,cap_c:=false,cap:= [5],cls:=100,drive:=50,opn:=0,rest:=0,skills:=0,fixed:=0,perMile:=0,perTick:=0,prof:=0 }],orders_c:=false,orders:= [{ name:= [109,105,108,107],load_c:=false,load:= [9],pick:=⟨-1,0,0,0⟩,drp:=⟨0,0,90,0⟩,skills:=0,penalty:=50,split:=1,last:= -1,now:= -1,off:=false }],apart_c:=true,apart:= [],before_c:=true,before:= [] }
theorem xB : ISz exbX:=⟨fun o hm=>by simp [exbX] at hm;subst hm;simp,by simp [exbX],by simp [exbX],by simp [exbX],by simp [exbX],by simp [exbX]⟩
def exbG (v:Itm):List UInt8:=if v.kind=3 then [99,97,112,97,99,105,116,121,32,111,102,32,97] else [117,110,107,110,111,119,110]
theorem fD : PC 83 [.p (Zr exbX),.p (Xe ⟨3,0⟩)] (.str (exbG ⟨3,0⟩)):=by
 refine Zc Tryz.func83 rfl Zh5 ?_;obtain ⟨X,hX⟩: ∃X,X=exbX:=⟨_,rfl⟩;rw [<- hX]
 have t1:X.types.length=1:=by rw [hX];rfl
 have t2:(nth X.types 0).name= [97]:=by rw [hX];rfl
 have t3:(nth X.types 0).name.length=1:=by rw [t2];rfl
 clear hX;simp (disch:=first | omega | (simp only [ZA,ZF,Zz,Zy,Z6,Xt]<;>omega)) only [Tryz.f83,go_sem,seval];simp [exbG,t2]
theorem ZcA (x:Inst) (i:Int) (ho:x.orders.length<=1048576) (e0:WR x i≠0):PT 20 [.p (Zr x),.p (.int .i64 i)] [.p (.list true []),.p (.int .i64 (WR x i))]:=by
 have c1:=iV x i ho;refine Ze [] Tryz.func20 rfl tO ?_;simp (disch:=omega) only [Tryz.f20,go_sem,seval];refine Y5 c1 ?_;simp (disch:=omega) only [go_sem,seval];refine cD ?_ ?_<;>intro h1<;>simp (disch:=omega) only [Sh.out h1,go_sem,seval]
 ·exact we
 ·exact absurd (Z4.1 h1) e0
theorem xA : PC 19 [] (.bool true):=by
 have c1:=ZcA exbX 1 (by decide) (by decide);rw [show WR exbX 1=7 from rfl] at c1
 have c2:=iG exbX xB exbG [⟨3,0⟩,⟨99,0⟩] false (by decide) (fun v hm hv=>by
  simp only [Z5,W0,Wa] at hm;rcases hm with rfl | rfl
  ·exact fD
  ·exact absurd hv (by decide)) (fun v hm hv=>by
  simp only [Z5,W0,Wa] at hm;rcases hm with rfl | rfl
  ·exact absurd hv (by decide)
  ·rfl)
 obtain ⟨R,hR⟩: ∃R:List (List UInt8),R= [⟨3,0⟩,⟨99,0⟩].map exbG:=⟨_,rfl⟩;rw [<- hR] at c2
 have r1:R.length=2:=by rw [hR];rfl
 have r2:nth R 0= [99,97,112,97,99,105,116,121,32,111,102,32,97]:=by rw [hR];rfl
 have r3:nth R 1= [117,110,107,110,111,119,110]:=by rw [hR];rfl
 clear hR;refine Ux [1,2,3,4] Tryz.func19 rfl Zhd ?_;simp (disch:=omega) only [Tryz.f19,go_sem,seval];refine YP (Ii 3 ?_);simp (disch:=omega) only [go_sem,seval];refine ⟨_,_,Weak.fz (o:=1) (by rfl),?_⟩;simp (disch:=omega) only [Zq,Zj,ZK,ZY,ZL,ZD,go_sem,seval];refine Zh [2,3,4] _ _ _ _ ?_;simp (disch:=omega) only [go_sem,seval];refine Zo (Weak.fz (o:=0) (by rfl)) ?_;refine Zo (Weak.fz (o:=2) (by rfl)) ?_;refine YP (Ii 1 ?_);simp (disch:=omega) only [Zq,Zj,ZK,ZY,ZL,ZD,go_sem,seval]
 refine ⟨_,_,Weak.fz (o:=4) (by rfl),?_⟩;simp (disch:=omega) only [Zq,Zj,ZK,ZY,ZL,ZD,go_sem,seval];refine Zh [3,4] _ _ _ _ ?_;simp (disch:=omega) only [go_sem,seval];refine Zo (Weak.fz (o:=5) (by rfl)) ?_;refine Zh [4] _ _ _ _ ?_;simp (disch:=omega) only [Zq,Zj,ZK,ZY,go_sem,seval];refine Y5 c1 ?_;simp (disch:=omega) only [go_sem,seval];refine YP (Ii 4 ?_);simp (disch:=omega) only [Zq,Zj,ZK,ZY,ZL,ZD,go_sem,seval]
 refine ⟨_,_,Weak.fz (o:=6) (by rfl),?_⟩;simp (disch:=omega) only [Zq,Zj,ZK,ZY,ZL,ZD,go_sem,seval];refine (c2).use ?_;simp (disch:=omega) only [go_sem,seval];refine Zh [] _ _ _ _ ?_;simp (disch:=omega) only [r1,r2,r3,go_sem,seval]
theorem MP (x:Inst) (hw:x.wf 1048576) (i:Int):PC 5 [.p (Zr x),.p (.int .i64 i)] (.bool true):=TE xA x hw i
end Go.Proofs.YtjkkdmeebhjaiaaGreatDoor.K
