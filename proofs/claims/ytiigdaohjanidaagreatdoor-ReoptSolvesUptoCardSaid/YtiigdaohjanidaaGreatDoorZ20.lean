/- Declarations that the closing texts need, part 20: joined by tools/slim.py. -/
import Derived.Test.YtiigdaohjanidaaGreatDoorZ19
set_option linter.unusedVariables false
set_option linter.unusedSimpArgs false
namespace Go.Proofs.YtiigdaohjanidaaGreatDoor.K
open Go Go.AM Go.Proofs
set_option maxRecDepth 8000
set_option maxHeartbeats 8000000
def Qp (l:List Pt) (t:Int) (i:Nat):Bool:=decide ((nth l i).t<=t)&&decide (t<(nth l (i+1)).t)
def FJ (p q:Pt) (t:Int):Int:=p.a+((t-p.t)*(q.a-p.a)+q.t-p.t-1) / (q.t-p.t)
def Q5 (l:List Pt) (t:Int):Int:=match (List.range (l.length-1)).find? (Qp l t) with
 | some i=>FJ (nth l i) (nth l (i+1)) t
 | none=>if (nth l 0).t<t then t+(nth l (l.length-1)).a-(nth l (l.length-1)).t else t+(nth l 0).a-(nth l 0).t
theorem Hk {l:List Pt} {t:Int} {i:Nat} (hi:i+1<l.length) (hno: ∀j,j<i->Qp l t j=false) (h:Qp l t i=true):Q5 l t=FJ (nth l i) (nth l (i+1)) t:=by
 have:(List.range (l.length-1)).find? (Qp l t)=some i:=by
  grind [List.find?_eq_some_iff_getElem]
 rw [Q5,this]
theorem Dl {l:List Pt} {t:Int} (hno: ∀j,j+1<l.length->Qp l t j=false):Q5 l t=if (nth l 0).t<t then t+(nth l (l.length-1)).a-(nth l (l.length-1)).t else t+(nth l 0).a-(nth l 0).t:=by
 grind [Q5]
theorem E2 {p q:Pt} {t:Int} (h1:p.t<=t) (h2:t<q.t) (hp:0<=p.t) (hq:q.t<=4096) (ha:p.a<=q.a) (hpa:0<=p.a) (hqa:q.a<=8192):0<=(t-p.t)*(q.a-p.a)/\(t-p.t)*(q.a-p.a)<=33554432:=by
 refine ⟨V7 Za Za,?_⟩;have:(t-p.t)*(q.a-p.a)<=4096*8192:=Qg Za Za Za Za;omega
theorem M8 (l:List Pt) (c:Bool) (t:Int) (hl:WG l) (ht:0<=t/\t<=1073741824):PC 324 [.p (.list c (l.map Fk)),.p (.int .i64 t)] (.int .i64 (Q5 l t)):=by
 obtain ⟨⟨hl1,hl2⟩,hpt⟩:=hl;refine Zc Tryz.func324 rfl Zbt ?_;simp (disch:=omega) only [Tryz.f324,go_sem,seval];refine ((aY l c Za).frozenE).useV fun m hm=>X8 ?_
 have hm0:m.length=0:=by rw [hm.emp.2 ⟨⟨hl1,hl2⟩,hpt⟩];rfl
 have e1: ¬t<0:=Za
 have e2: ¬ 1073741824<t:=Za
 simp (disch:=omega) only [hm0,e1,e2,go_sem,seval];refine Zi [0,1] (fun k:Nat=> [(5,.p (.int .i64 k))]) (fun _=> []) (fun k=>k<l.length/\ ∀j,j<k->Qp l t j=false) (fun k=>l.length-k) 0 (by simp;omega) (Weak.mk ?_) ?_
 ·simp (disch:=omega) only [go_sem,seval,↓reduceIte]
 ·rintro k ⟨hk,hno⟩;refine X8 ?_;refine cD ?_ ?_<;>intro h<;>simp (disch:=omega) only [Sh.out h,go_sem,seval,↓reduceIte]
  ·have hk2:k+1<l.length:=Za
   obtain ⟨⟨p1,p2,p3,p4⟩,_⟩:=hpt k hk;obtain ⟨⟨q1,q2,q3,q4⟩,q5⟩:=hpt (k+1) hk2;obtain ⟨r1,r2⟩:=q5 Za;rw [Nat.add_sub_cancel] at r1 r2;refine gT ?_ ?_<;>intro h2<;>simp (disch:=omega) only [Sh.out h2,go_sem,seval,↓reduceIte]
   ·refine cD ?_ ?_<;>intro h3<;>simp (disch:=omega) only [Sh.out h3,go_sem,seval,↓reduceIte]
    ·have hsg:Qp l t k=true:=by simp [Qp,h2,h3]
     rw [Hk hk2 hno hsg];obtain ⟨s1,s2⟩:=E2 h2 h3 p1 q2 r2 Za Za;have d1:0<=((t-(nth l k).t)*((nth l (k+1)).a-(nth l k).a)+(nth l (k+1)).t-(nth l k).t-1) / ((nth l (k+1)).t-(nth l k).t):=Int.ediv_nonneg Za Za;have d2:((t-(nth l k).t)*((nth l (k+1)).a-(nth l k).a)+(nth l (k+1)).t-(nth l k).t-1) / ((nth l (k+1)).t-(nth l k).t)<=33558528:=Int.le_trans (Int.ediv_le_self _ Za) Za
     have d3: ¬(nth l (k+1)).t-(nth l k).t=0:=Za
     simp only [FJ];refine Z6 ?_;simp (disch:=omega) only [go_sem,seval,↓reduceIte]
    ·have hsg:Qp l t k=false:=by simp [Qp,h3]
     exact ⟨k+1,⟨Za,Zm.2 ⟨hno,hsg⟩⟩,Za,wk⟩
   ·have hsg:Qp l t k=false:=by simp [Qp,h2]
    exact ⟨k+1,⟨Za,Zm.2 ⟨hno,hsg⟩⟩,Za,wk⟩
  ·have hkl:k+1=l.length:=Za
   rw [Dl (fun j hj=>hno j Za)];obtain ⟨⟨p1,p2,p3,p4⟩,_⟩:=hpt 0 Za;obtain ⟨⟨q1,q2,q3,q4⟩,_⟩:=hpt (l.length-1) Za
   have i1:((l.length:Int)-1).toNat=l.length-1:=Za
   refine cD ?_ ?_<;>intro h2<;>simp (disch:=omega) only [Sh.out h2,go_sem,seval,↓reduceIte]
theorem ZN {α:Type} [Inhabited α] {l:List α} {i:Nat} (h:i<l.length):nth l i∈l:=by grind [Zj]
def kV (a:Arc):Prop:=WG a.travel/\a.slow.length<=16/\ ∀p∈a.slow,0<=p.t/\p.t<=4096/\0<=p.a/\p.a<=4096
def JI (l:List Pt) (t:Int) (k:Nat):Int:=(l.take k).foldl (fun s p=>if p.t<=t then s+p.a else s) 0
def Hj (a:Arc) (t:Int):Int:=Q5 a.travel t+JI a.slow t a.slow.length
theorem AO {l:List Pt} {t:Int} {k:Nat} (h:k<l.length):JI l t (k+1)=if (nth l k).t<=t then JI l t k+(nth l k).a else JI l t k:=by
 grind [JI,Zx,Zj]
theorem QU {l:List Pt} {t:Int} (hl: ∀p∈l,0<=p.a/\p.a<=4096): ∀k,k<=l.length->0<=JI l t k/\JI l t k<=4096*k
 | 0,_=>by simp [JI]
 | k+1,h=>by
  have ih:=QU (t:=t) hl k Za
  grind [ZN,AO]
theorem DZ {l:List Pt} {t:Int} (hl:WG l) (ht:0<=t/\t<=1073741824):0<=Q5 l t/\Q5 l t<=1107304448:=by
 obtain ⟨⟨hl1,hl2⟩,hpt⟩:=hl;unfold Q5
 split
 ·rename_i i hi;have hm:=YN hi;have hs:=Jy hi;simp at hm;simp only [Qp,ZG,Zr] at hs;obtain ⟨⟨p1,p2,p3,p4⟩,_⟩:=hpt i Za;obtain ⟨⟨q1,q2,q3,q4⟩,q5⟩:=hpt (i+1) Za;obtain ⟨r1,r2⟩:=q5 Za;rw [Nat.add_sub_cancel] at r1 r2;obtain ⟨s1,s2⟩:=E2 hs.1 hs.2 p1 q2 r2 Za Za;have d1:0<=((t-(nth l i).t)*((nth l (i+1)).a-(nth l i).a)+(nth l (i+1)).t-(nth l i).t-1) / ((nth l (i+1)).t-(nth l i).t):=Int.ediv_nonneg Za Za;have d2:((t-(nth l i).t)*((nth l (i+1)).a-(nth l i).a)+(nth l (i+1)).t-(nth l i).t-1) / ((nth l (i+1)).t-(nth l i).t)<=33558528:=Int.le_trans (Int.ediv_le_self _ Za) Za
  unfold FJ;omega
 ·obtain ⟨⟨p1,p2,p3,p4⟩,_⟩:=hpt 0 Za;obtain ⟨⟨q1,q2,q3,q4⟩,_⟩:=hpt (l.length-1) Za;omega
theorem M9 (a:Arc) (t:Int) (ha:kV a) (ht:0<=t/\t<=1073741824):PC 320 [.p (Wj a),.p (.int .i64 t)] (.int .i64 (Hj a t)):=by
 obtain ⟨h1,h2,h3⟩:=ha;have hr:=DZ h1 ht;have hs:=QU (t:=t) (fun p hp=>(h3 p hp).2.2);refine Zc Tryz.func320 rfl Zbp ?_;simp (disch:=omega) only [Tryz.f320,go_sem,seval];refine (M8 a.travel a.travel_c t h1 ht).use (X8 ?_);refine Zi [1,2] (fun k:Nat=> [(5,.p (.int .i64 (Q5 a.travel t+JI a.slow t k))),(6,.p (.int .i64 k))]) (fun _=> [WN a]) (fun k=>k<=a.slow.length) (fun k=>a.slow.length-k) 0 Zb (Weak.mk ?_) ?_
 ·simp (disch:=omega) only [WN,JI,Qh,go_sem,seval];simp
 ·intro k hk;have hsk:=hs k hk;simp (disch:=omega) only [WN,go_sem,seval];refine cD ?_ ?_<;>intro h<;>simp (disch:=omega) only [Sh.out h,go_sem,seval,↓reduceIte]
  ·have hk2:k<a.slow.length:=Za
   have hp:=h3 _ (ZN hk2);have hsn:=AO (t:=t) hk2;refine ZB ?_ ?_<;>intro h4
   ·rw [if_pos h4] at hsn;exact ⟨k+1,Za,Za,Weak.mk (by simp (disch:=omega) only [hsn,Int.add_assoc,go_sem,seval])⟩
   ·rw [if_neg h4] at hsn;exact ⟨k+1,Za,Za,Weak.mk (by simp (disch:=omega) only [hsn,go_sem,seval])⟩
  grind [Hj]
theorem G2 {g:FuncId} {args:List V} {a b c:PV} {H:List AM.Obj} {K:V->List AM.Obj->Prop} (h:ACalls Tryz.prog g args [] fun x H'=>x= .tup [.p a,.p b,.p c]/\H'= []) (k:K (.tup [.p a,.p b,.p c]) H) (ha:Xf 0 args=true:=by rfl):ACalls Tryz.prog g args H K :=
 (h.behind ha H).mono fun x H' hq=>by
  obtain ⟨y,H1,⟨rfl,rfl⟩,rfl,rfl⟩:=hq
  grind [shV,shVs]
theorem X6 {g:FuncId} {args:List V} {a b:PV} {H:List AM.Obj} {K:V->List AM.Obj->Prop} (h:ACalls Tryz.prog g args [] fun x H'=>x= .tup [.p a,.p b]/\H'= []) (k:K (.tup [.p a,.p b]) H) (ha:Xf 0 args=true:=by rfl):ACalls Tryz.prog g args H K :=
 (h.behind ha H).mono fun x H' hq=>by
  obtain ⟨y,H1,⟨rfl,rfl⟩,rfl,rfl⟩:=hq
  grind [shV,shVs]
def Kf (n:Net) (p:Int):Bool:=decide (0<=p)&&decide (p<(n.places.length:Int))
theorem GH (n:Net) (p:Int) (hn:n.places.length<=1048576):PC 318 [.p (Al n),.p (.int .i64 p)] (.bool (Kf n p)):=by
 refine Zc Tryz.func318 rfl Zbn ?_;simp (disch:=omega) only [Tryz.f318,go_sem,seval];refine gT ?_ ?_<;>intro h<;>simp (disch:=omega) only [Sh.out h,go_sem,seval,↓reduceIte]
 ·simp [Kf,h]
 ·simp [Kf,h]
def W3 (pr f t:Int) (a:Arc):Bool:=decide (a.src=f)&&decide (a.dst=t)&&decide (a.prof=pr)
def VE : Arc:=⟨0,0,0,0,true,[],true,[]⟩
def Wq (n:Net) (pr f t:Int):Arc×Bool:=match n.arcs.find? (W3 pr f t) with | some a=>(a,true) | none=>(VE,false)
theorem Lt {n:Net} {pr f t:Int} {k:Nat} (hk:k<n.arcs.length) (hno: ∀j,j<k->W3 pr f t (nth n.arcs j)=false) (h:W3 pr f t (nth n.arcs k)=true):Wq n pr f t=(nth n.arcs k,true):=by
 have:n.arcs.find? (W3 pr f t)=some (nth n.arcs k):=by
  grind [List.find?_eq_some_iff_getElem,Zj]
 rw [Wq,this]
theorem Lu {n:Net} {pr f t:Int} (hno: ∀j,j<n.arcs.length->W3 pr f t (nth n.arcs j)=false):Wq n pr f t=(VE,false):=by
 have:n.arcs.find? (W3 pr f t)=none:=by
  rw [KT];intro a ha;obtain ⟨j,hj,rfl⟩:=Z4.1 ha
  grind [Zj]
 rw [Wq,this]
theorem bX (n:Net) (pr f t:Int) (hn:n.arcs.length<=1048576):PT 319 [.p (Al n),.p (.int .i64 pr),.p (.int .i64 f),.p (.int .i64 t)] [.p (Wj (Wq n pr f t).1),.p (.bool (Wq n pr f t).2)]:=by
 refine Ze [] Tryz.func319 rfl Zbo ?_;simp (disch:=omega) only [Tryz.f319,go_sem,seval];refine Zi [1,2,3,4,8] (fun k:Nat=> [(10,.p (.int .i64 k))]) (fun _=>ZU n++ [WN VE]) (fun k=>k<=n.arcs.length/\ ∀j,j<k->W3 pr f t (nth n.arcs j)=false) (fun k=>n.arcs.length-k) 0 Zb (Weak.mk ?_) ?_
 ·simp (disch:=omega) only [ZU,WN,VE,Zk,Xu,ZF,go_sem,seval]
 ·rintro k ⟨hk,hno⟩;simp (disch:=omega) only [ZU,WN,VE,Zk,Xu,ZF,go_sem,seval];refine cD ?_ ?_<;>intro h<;>simp (disch:=omega) only [Sh.out h,go_sem,seval,↓reduceIte]
  ·have hk2:k<n.arcs.length:=Za
   have nx:W3 pr f t (nth n.arcs k)=false-> ∀j,j<k+1->W3 pr f t (nth n.arcs j)=false:=fun h=>Zm.2 ⟨hno,h⟩;refine Jd ?_ ?_<;>intro h1
   ·refine Jd ?_ ?_<;>intro h2
    ·refine ZB ?_ ?_<;>intro h3
     ·have e:=Lt hk2 hno (by grind [W3]);rw [e];exact we
     ·exact ⟨k+1,⟨Za,nx (by simp [W3,h3])⟩,Za,wk⟩
    ·exact ⟨k+1,⟨Za,nx (by simp [W3,h2])⟩,Za,wk⟩
   ·exact ⟨k+1,⟨Za,nx (by simp [W3,h1])⟩,Za,wk⟩
  ·have hkn:k=n.arcs.length:=Za
   subst hkn;rw [Lu hno];exact we (by simp (disch:=omega) only [VE,Zk,go_sem,seval])
def Ub (n:Net) (pr f t τ:Int):Int×Int×Int :=
 if (Kf n f&&Kf n t)=false then (0,0,11) else if f=t then (τ,0,0) else if (Wq n pr f t).2=true then (Hj (Wq n pr f t).1 τ,(Wq n pr f t).1.miles,0) else (0,0,12)
def netR (n:Net):Prop:=n.places.length<=1048576/\n.arcs.length<=1048576/\ ∀a∈n.arcs,kV a
theorem KM {n:Net} {pr f t:Int} (h:(Wq n pr f t).2=true):(Wq n pr f t).1∈n.arcs:=by
 grind [Wq]
theorem wV (n:Net) (pr f t τ:Int) (hn:netR n) (hτ:0<=τ/\τ<=1073741824):PT 307 [.p (Al n),.p (.int .i64 pr),.p (.int .i64 f),.p (.int .i64 t),.p (.int .i64 τ)] [.p (.int .i64 (Ub n pr f t τ).1),.p (.int .i64 (Ub n pr f t τ).2.1),.p (.int .i64 (Ub n pr f t τ).2.2)]:=by
 refine Ze [] Tryz.func307 rfl Zbc ?_;simp (disch:=omega) only [Tryz.f307,go_sem,seval];refine (GH n f hn.1).use (X8 ?_);refine gF ?_ ?_<;>intro h1<;>simp (disch:=omega) only [Sh.out h1,go_sem,seval,↓reduceIte]
 ·have e:Ub n pr f t τ=(0,0,11):=by grind [Ub]
  rw [e];exact we
 ·simp only [XC] at h1;refine (GH n t hn.1).use (X8 ?_);refine cD ?_ ?_<;>intro h2<;>simp (disch:=omega) only [Sh.out h2,go_sem,seval]
  ·have e:Ub n pr f t τ=(0,0,11):=by grind [Ub]
   rw [e];exact we
  ·simp only [XC] at h2;refine cD ?_ ?_<;>intro h3<;>simp (disch:=omega) only [Sh.out h3,go_sem,seval,↓reduceIte]
   ·have e:Ub n pr f t τ=(τ,0,0):=by grind [Ub]
    rw [e];exact we
   ·have cf:=bX n pr f t hn.2.1;have hm:= @KM n pr f t
    have e0:Ub n pr f t τ=if (Wq n pr f t).2=true then (Hj (Wq n pr f t).1 τ,(Wq n pr f t).1.miles,0) else (0,0,12):=by grind [Ub]
    rw [e0];generalize Wq n pr f t=A at cf hm ⊢;obtain ⟨a,b⟩:=A;simp only at cf hm ⊢;refine X6 cf (X8 ?_);refine cD ?_ ?_<;>intro h4<;>simp (disch:=omega) only [Sh.out h4,go_sem,seval]
    ·have hb:b=false:=by grind
     subst hb;exact we (by simp (disch:=omega) only [go_sem,seval,↓reduceIte])
    ·have hb:b=true:=by grind
     subst hb;refine Z6 (X8 ?_);refine Zq (M9 a τ (hn.2.2 a (hm rfl)) hτ) (X8 ?_);exact we
theorem qO (x:Inst) (pr f t τ:Int) (hn:netR x.net) (hτ:0<=τ/\τ<=1073741824):PT 284 [.p (Zv x),.p (.int .i64 pr),.p (.int .i64 f),.p (.int .i64 t),.p (.int .i64 τ)] [.p (.int .i64 (Ub x.net pr f t τ).1),.p (.int .i64 (Ub x.net pr f t τ).2.1),.p (.bool (decide ((Ub x.net pr f t τ).2.2=0)))]:=by
 refine Ze [] Tryz.func284 rfl ZaS ?_;simp (disch:=omega) only [Tryz.f284,go_sem,seval];refine G2 (wV x.net pr f t τ hn hτ) (X8 ?_);exact we
structure StD where
 place:Int
 time:Int
 driven:Int
 miles:Int
def bP (s:StD):PV:= .agg [.int .i64 s.place,.int .i64 s.time,.int .i64 s.driven,.int .i64 s.miles]
@[go_sem] theorem ZkD (s:StD):bP s= .agg [.int .i64 s.place,.int .i64 s.time,.int .i64 s.driven,.int .i64 s.miles]:=ZP rfl rfl
def ER (t:Typ) (s:StD) (b:Bool):StD:=if b=true then { s with time:=s.time+t.rest,driven:=0 } else s
theorem Md (t:Typ) (s:StD) (b:Bool) (hb: -1099511627776<=s.time/\s.time<=1099511627776/\ -1099511627776<=t.rest/\t.rest<=1099511627776):PC 249 [.p (Y5 t),.p (bP s),.p (.bool b)] (bP (ER t s b)):=by
 refine Zc Tryz.func249 rfl Zat ?_
 cases b with
 | true=>simp (disch:=omega) only [Tryz.f249,ER,go_sem,seval,↓reduceIte]
 | false=>simp (disch:=omega) only [Tryz.f249,ER,Wu,go_sem,seval,↓reduceIte]
def QV (x:Inst) (t:Typ) (s:StD) (to cl late:Int):StD×Int :=
 if ¬(Ub x.net t.prof s.place to s.time).2.2=0 then (s,12)
 else if cl<(Ub x.net t.prof s.place to s.time).1 then (s,late)
 else if t.drive<s.driven+(Ub x.net t.prof s.place to s.time).1-s.time then (s,16)
 else (⟨to,(Ub x.net t.prof s.place to s.time).1,s.driven+(Ub x.net t.prof s.place to s.time).1-s.time,s.miles+(Ub x.net t.prof s.place to s.time).2.1⟩,0)
def TK (n:Int):Prop:= -1099511627776<=n/\n<=1099511627776
theorem ME (x:Inst) (t:Typ) (s:StD) (to cl late:Int) (hn:netR x.net) (hs:0<=s.time/\s.time<=1073741824) (hd:TK s.driven) (hm:TK s.miles) (hg:TK (Ub x.net t.prof s.place to s.time).1/\TK (Ub x.net t.prof s.place to s.time).2.1) :
  PT 250 [.p (Zv x),.p (Y5 t),.p (bP s),.p (.int .i64 to),.p (.int .i64 cl),.p (.int .i64 late)] [.p (bP (QV x t s to cl late).1),.p (.int .i64 (QV x t s to cl late).2)]:=by
 have cw:=qO x t.prof s.place to s.time hn hs;unfold QV;generalize Ub x.net t.prof s.place to s.time=g at cw hg ⊢;obtain ⟨a,m,e⟩:=g;unfold TK at hd hm hg;simp only at cw hg ⊢;refine Ze [] Tryz.func250 rfl Zau ?_;simp (disch:=omega) only [Tryz.f250,go_sem,seval];refine G2 cw (X8 ?_);refine cD ?_ ?_<;>intro h1<;>simp (disch:=omega) only [Sh.out h1,go_sem,seval,↓reduceIte]
 ·exact we
 ·rw [if_neg h1];refine cD ?_ ?_<;>intro h2<;>simp (disch:=omega) only [Sh.out h2,go_sem,seval,↓reduceIte]
  ·exact we
  ·rw [if_neg h2];refine cD ?_ ?_<;>intro h3<;>simp (disch:=omega) only [Sh.out h3,go_sem,seval,↓reduceIte]
   ·exact we
   ·exact we
structure Lab where
 ready:Int
 since:Int
 she:She
 deriving Inhabited
def zShe : She:=⟨false,0,true,[],0,0⟩
def Wo : Lab:=⟨0,0,zShe⟩
def ZR (t:Typ) (L:Lab) (b:Bool):Int:=if b=true then L.ready+t.rest else L.ready
def W1 (L:Lab) (b:Bool):Int:=if b=true then 0 else L.since
def Pw (l:List Tim) (k:Nat) (d:Int) (b:Bool):List Tim:=l.set k { nth l k with dep:=d,rest:=b }
def XM (k:Nat) (d:Int) (b:Bool) (s:She):She:=if k=0 then { s with rest:=b,dep:=d } else { s with times:=Pw s.times (k-1) d b }
def JM (t:Typ) (sp:List Stp) (k:Nat):Int:=if k=0 then t.src else (nth sp (k-1)).place
def TE (t:Typ) (sp:List Stp) (k:Nat):Int:=if k=sp.length then t.dst else (nth sp k).place
def Wb (x:Inst) (t:Typ) (sp:List Stp) (k:Nat) (d:Int):Int×Int×Int:=Ub x.net t.prof (JM t sp k) (TE t sp k) d
def WB (t:Typ) (sp:List Stp) (k:Nat) (g:Int×Int×Int) (d s:Int) (h:She):Lab×Int :=
 if ¬g.2.2=0 then (Wo,12)
 else if k=sp.length then
  if t.cls<g.1 then (Wo,15) else if t.drive<s+g.1-d then (Wo,16)
  else (⟨g.1,s+g.1-d,{ h with fin:=g.1,miles:=h.miles+g.2.1 }⟩,0)
 else if (nth sp k).cls<max g.1 (nth sp k).opn then (Wo,14)
 else if t.drive<s+g.1-d then (Wo,16)
 else (⟨max g.1 (nth sp k).opn+(nth sp k).serv,s+g.1-d,{ h with times_c:=false,times:=h.times++ [⟨g.1,max g.1 (nth sp k).opn,0,false⟩],miles:=h.miles+g.2.1 }⟩,0)
def Yk (x:Inst) (t:Typ) (sp:List Stp) (k:Nat) (L:Lab) (b:Bool):Lab×Int :=
 WB t sp k (Wb x t sp k (ZR t L b)) (ZR t L b) (W1 L b) (XM k (ZR t L b) b L.she)
def XP (x:Inst) (t:Typ) (sp:List Stp) (k:Nat) (L:Lab) (b:Bool):Option Lab:=if (Yk x t sp k L b).2=0 then some (Yk x t sp k L b).1 else none
def XK (x:Inst) (t:Typ) (sp:List Stp):Nat->Lab->List Bool->Lab×Int
 | _,L,[]=>(L,0)
 | k,L,b::bs=>if (Yk x t sp k L b).2=0 then XK x t sp (k+1) (Yk x t sp k L b).1 bs else (Wo,(Yk x t sp k L b).2)
def XB (t:Typ) (st:Int):Lab:=⟨max t.opn st,0,zShe⟩
theorem VO {x:Inst} {t:Typ} {sp:List Stp} : ∀(bs:List Bool) (k:Nat) (L:Lab),Vg (XP x t sp) k L bs=if (XK x t sp k L bs).2=0 then some (XK x t sp k L bs).1 else none
 | [],k,L=>by rfl
 | b::bs,k,L=>by
  rw [Vg,XK,XP]
  by_cases h:(Yk x t sp k L b).2=0
  ·simp only [h,if_true];exact VO bs (k+1) _
  ·simp [h]
structure TrpOk (x:Inst) (t:Typ) (sp:List Stp):Prop where
 net:netR x.net
 mil: ∀a∈x.net.arcs,0<=a.miles/\a.miles<=10000
 opn:0<=t.opn/\t.opn<=t.cls/\t.cls<=4096
 drv:1<=t.drive/\t.drive<=4096
 rst:0<=t.rest/\t.rest<=4096
 stp: ∀s∈sp,0<=s.opn/\s.opn<=s.cls/\s.cls<=4096/\0<=s.serv/\s.serv<=4096
 len:sp.length<=20
structure LabR (k:Nat) (L:Lab):Prop where
 rdy:0<=L.ready/\L.ready<=8192
 snc: -(12288*(k:Int))<=L.since/\L.since<=4096
 mil:0<=L.she.miles/\L.she.miles<=10000*(k:Int)
theorem nO {n:Net} {pr f t τ:Int} (hn:netR n) (hm: ∀a∈n.arcs,0<=a.miles/\a.miles<=10000) (hτ:0<=τ/\τ<=1073741824):(0<=(Ub n pr f t τ).1/\(Ub n pr f t τ).1<=1107369984)/\(0<=(Ub n pr f t τ).2.1/\(Ub n pr f t τ).2.1<=10000):=by
 unfold Ub
 split
 ·simp
 ·split
  ·grind
  ·split
   ·rename_i h;have hA:=KM h;have h1:=DZ (hn.2.2 _ hA).1 hτ;have h2:=QU (t:=τ) (fun p hp=>((hn.2.2 _ hA).2.2 p hp).2.2) _ (ZM _);have h3:=(hn.2.2 _ hA).2.1
    grind [Hj]
   ·simp
theorem JV {x t sp k L} (h:TrpOk x t sp) (hl:LabR k L) (b:Bool):0<=ZR t L b/\ZR t L b<=12288:=by
 have:=h.rst;have:=hl.rdy
 grind [ZR]
theorem E7 {k L} (hl:LabR k L) (b:Bool): -(12288*(k:Int))<=W1 L b/\W1 L b<=4096:=by
 have:=hl.snc
 grind [W1]
theorem HN {x t sp k L} (h:TrpOk x t sp) (hl:LabR k L) (b:Bool):(0<=(Wb x t sp k (ZR t L b)).1/\(Wb x t sp k (ZR t L b)).1<=1107369984)/\(0<=(Wb x t sp k (ZR t L b)).2.1/\(Wb x t sp k (ZR t L b)).2.1<=10000):=by
 have:=JV h hl b;exact nO h.net h.mil Za
theorem J6 {k d b s} :(XM k d b s).miles=s.miles:=by grind [XM]
theorem Gy {k d b s} :(XM k d b s).fin=s.fin:=by grind [XM]
theorem K4 {k d b s} :(XM k d b s).times.length=s.times.length:=by grind [XM,Pw]
theorem H4 {x t sp k L b} (h:TrpOk x t sp) (hk:k<=sp.length) (hl:LabR k L) (he:(Yk x t sp k L b).2=0):LabR (k+1) (Yk x t sp k L b).1:=by
 have h1:=JV h hl b;have h2:=E7 hl b;obtain ⟨h3,h4⟩:=HN h hl b;have h5:=hl.mil;have h6:=h.opn;have h7:=h.drv;have hm:(XM k (ZR t L b) b L.she).miles=L.she.miles:=J6;unfold Yk at he ⊢
 generalize Wb x t sp k (ZR t L b)=g at *
 generalize ZR t L b=d at *
 generalize W1 L b=s at *
 generalize XM k d b L.she=m at *
 unfold WB at he ⊢
 split at he
 ·simp at he
 ·rename_i c1;rw [if_neg c1]
  split at he
  ·rename_i c2;rw [if_pos c2]
   split at he
   ·simp at he
   ·rename_i c3;rw [if_neg c3]
    split at he
    ·simp at he
    ·rename_i c4;rw [if_neg c4];exact ⟨by grind,by grind,by grind⟩
  ·rename_i c2;rw [if_neg c2];have h8:=h.stp _ (ZN (show k<sp.length by omega))
   split at he
   ·simp at he
   ·rename_i c3;rw [if_neg c3]
    split at he
    ·simp at he
    ·rename_i c4;rw [if_neg c4];exact ⟨by grind,by grind,by grind⟩
theorem ED {x t sp k L b} (hl:L.she.times.length=k) (he:(Yk x t sp k L b).2=0) (hk:k<sp.length):(Yk x t sp k L b).1.she.times.length=k+1:=by
 have hm:(XM k (ZR t L b) b L.she).times.length=L.she.times.length:=K4;unfold Yk at he ⊢
 generalize Wb x t sp k (ZR t L b)=g at *
 generalize ZR t L b=d at *
 generalize W1 L b=s at *
 generalize XM k d b L.she=m at *
 have hk2: ¬k=sp.length:=Za
 unfold WB at he ⊢
 grind
def Xa (m x:Lab):Bool:=decide (m.ready=x.ready)&&decide (m.since<=x.since)
theorem Ng {x t sp k} {m y z:Lab} {b:Bool} (hb:Xa m y=true) (hn:XP x t sp k y b=some z): ∃u,XP x t sp k m b=some u/\Xa u z=true:=by
 simp only [Xa,ZG,Zr] at hb;obtain ⟨hb1,hb2⟩:=hb
 have hd:ZR t m b=ZR t y b:=by simp [ZR,hb1]
 have hs:W1 m b<=W1 y b:=by grind [W1]
 unfold XP at hn ⊢;unfold Yk at hn ⊢;rw [hd]
 generalize Wb x t sp k (ZR t y b)=g at *
 generalize ZR t y b=d at *
 generalize W1 y b=s at *
 generalize W1 m b=s2 at *
 generalize XM k d b y.she=h1 at *
 generalize XM k d b m.she=h2 at *
 unfold WB at hn ⊢
 by_cases c1:g.2.2=0
 ·by_cases c2:k=sp.length
  ·simp only [c1,c2,not_true,if_true,Yy] at hn ⊢
   by_cases c3:t.cls<g.1
   ·grind
   ·by_cases c4:t.drive<s+g.1-d
    ·grind
    ·have c5: ¬t.drive<s2+g.1-d:=Za
     simp only [c3,c4,Yy,if_true,XT] at hn;subst hn;refine ⟨_,by simp only [c3,c5,Yy,if_true];rfl,?_⟩;simp [Xa];omega
  ·simp only [c1,c2,not_true,Yy] at hn ⊢
   by_cases c3:(nth sp k).cls<max g.1 (nth sp k).opn
   ·grind
   ·by_cases c4:t.drive<s+g.1-d
    ·grind
    ·have c5: ¬t.drive<s2+g.1-d:=Za
     simp only [c3,c4,Yy,if_true,XT] at hn;subst hn;refine ⟨_,by simp only [c3,c5,Yy,if_true];rfl,?_⟩;simp [Xa];omega
 grind
def Wa (L:Lab):Int:=L.she.fin
theorem LZ {x t sp} {y z:Lab} {b:Bool} (hn:XP x t sp sp.length y b=some z):z.she.fin=z.ready:=by
 unfold XP Yk WB at hn
 grind
theorem Gq {x t sp} (ch:Nat->List Bool) (L:Lab):Vh Wa none (JF Xa (XP x t sp) ch (sp.length+1) 0 [L])=Vh Wa none (W9 (XP x t sp) ch (sp.length+1) 0 L):=by
 have h:=Pp Wa Xa (XP x t sp) ch (n:=sp.length+1) (Inv:=fun k y=>k=sp.length+1->y.she.fin=y.ready)
  (fun k y b z _ hn hk=>by
   grind [LZ]) (fun k m y b z _ _ hb hn=>Ng hb hn)
  (fun m y h1 h2 hb=>by
   simp only [Xa,ZG,Zr] at hb
   rw [Wa,Wa,h1 rfl,h2 rfl];omega) (sp.length+1) 0 [L] Za (fun y _ hk=>Za)
 rw [h];simp
def V2 (r:List Bool) (k:Nat):List Bool:=match r[k]? with | some b=> [b] | none=> [false,true]
theorem O9 (r:List Bool) (n:Nat) (hn:r.length<=n): ∀(j k:Nat),k+j=r.length->HI (V2 r) (n-k) k=(Y3 (List.replicate (n-r.length) false)).map (r.drop k++ ·)
 | 0,k,h=>by
  have hk:k=r.length:=Za
  subst hk;rw [Lr (n:=n) _ _ _ (fun q hq=>by grind [V2])];simp
 | j+1,k,h=>by
  have e:n-k=(n-(k+1))+1:=Za
  have hlt:k<r.length:=Za
  rw [e,HI,O9 r n hn j (k+1) Za]
  have:V2 r k= [r[k]]:=by simp [V2,hlt]
  rw [this,List.flatMap_cons,List.flatMap_nil,Wc,List.map_map,Vq hlt]
  rfl
theorem Ga (r:List Bool) (n:Nat) (hn:r.length<=n):HI (V2 r) n 0=(Y3 (List.replicate (n-r.length) false)).map (r++ ·):=by
 have:=O9 r n hn r.length 0 Za
 grind
def YY (r:List Bool) (n:Nat):List (List Bool):=(Y3 (List.replicate (n-r.length) false)).map (r++ ·)
def Y6 (r:List Bool) (n:Nat):List Bool:=r++List.replicate (n-r.length) false
def Ui (x:Inst) (t:Typ) (sp:List Stp) (st:Int) (r:List Bool):She×Int :=
 match Vh Wa none ((YY r (sp.length+1)).filterMap (Vg (XP x t sp) 0 (XB t st))) with
 | some L=>(L.she,0)
 | none=>(zShe,(XK x t sp 0 (XB t st) (Y6 r (sp.length+1))).2)
theorem Hp {x t sp} {st:Int} {r:List Bool} (hr:r.length<=sp.length+1):Ui x t sp st r=match Vh Wa none (JF Xa (XP x t sp) (V2 r) (sp.length+1) 0 [XB t st]) with
 | some L=>(L.she,0)
 | none=>(zShe,(XK x t sp 0 (XB t st) (Y6 r (sp.length+1))).2):=by
 rw [Gq,W9,Ga r _ hr];rfl
theorem Mm {x t sp} : ∀(bs:List Bool) (k:Nat) (L:Lab),L.she.times.length=k->k+bs.length=sp.length+1->0<bs.length->(XK x t sp k L bs).2=0->(XK x t sp k L bs).1.she.times.length=sp.length
 | [],k,L,h1,h2,h3,h=>by simp at h3
 | b::bs,k,L,h1,h2,_,h=>by
  rw [XK] at h ⊢
  by_cases h4:(Yk x t sp k L b).2=0
  ·simp only [h4,if_true] at h ⊢
   cases bs with
   | nil =>
    simp at h2;subst h2;rw [XK];unfold Yk at h4 ⊢;unfold WB at h4 ⊢
    split at h4
    ·simp at h4
    ·rename_i c1;rw [if_neg c1];simp only [if_true] at h4 ⊢
     split at h4
     ·simp at h4
     ·rename_i c2;rw [if_neg c2]
      split at h4
      ·simp at h4
      simp_all [if_neg,K4]
   | cons b2 bs =>
    simp at h2;exact Mm (b2::bs) (k+1) _ (ED h1 h4 Za) (by simp;omega) Zb h
  grind
theorem bestF_len {x t sp} {st:Int} {r:List Bool} (hr:r.length<=sp.length+1) (h:(Ui x t sp st r).2=0):(Ui x t sp st r).1.times.length=sp.length:=by
 unfold Ui at h ⊢
 cases hf:Vh Wa none ((YY r (sp.length+1)).filterMap (Vg (XP x t sp) 0 (XB t st))) with
 | none =>
  rw [hf] at h;simp only at h ⊢;exfalso
  have hm:Y6 r (sp.length+1)∈YY r (sp.length+1):=by
   grind [YY,Y6,fromB_next]
  have h2:Vg (XP x t sp) 0 (XB t st) (Y6 r (sp.length+1))=some (XK x t sp 0 (XB t st) (Y6 r (sp.length+1))).1:=by rw [VO,if_pos h]
  have h3:(XK x t sp 0 (XB t st) (Y6 r (sp.length+1))).1∈(YY r (sp.length+1)).filterMap (Vg (XP x t sp) 0 (XB t st)):=Bt.2 ⟨_,hm,h2⟩;generalize (YY r (sp.length+1)).filterMap (Vg (XP x t sp) 0 (XB t st))=l at hf h3
  cases l with
  | nil=>simp at h3
  | cons a l =>
   rw [Vh] at hf;obtain ⟨z,e,_⟩:=QD Wa l a
   grind
 | some L =>
  simp only;have hm:=fmL_mem _ _ hf;obtain ⟨bs,hbs,hrun⟩:=Bt.1 hm;rw [VO] at hrun
  split at hrun
  ·rename_i h5;simp at hrun;subst hrun;obtain ⟨q,hq,rfl⟩:=Ww.1 hbs;have hql:=fromB_len _ _ hq;simp at hql;exact Mm _ 0 _ rfl (by grind) (by grind) h5
  ·cases hrun
where
 fmL_mem: ∀(l:List Lab) (L:Lab),Vh Wa none l=some L->L∈l
 | [],L,h=>by simp [Vh] at h
 | a::l,L,h=>by
  rw [Vh] at h;exact fmL_mem2 l a L h
 fmL_mem2: ∀(l:List Lab) (a L:Lab),Vh Wa (some a) l=some L->L∈a::l
 | [],a,L,h=>by grind [Vh]
 | y::l,a,L,h=>by
  rw [Vh] at h
  split at h
  ·have:=fmL_mem2 l y L h;grind
  ·have:=fmL_mem2 l a L h;grind
 fromB_len: ∀(l q:List Bool),q∈Y3 l->q.length=l.length
 | [],q,h=>by grind [Y3]
 | b::bs,q,h=>by
  rw [Y3] at h
  split at h
  ·obtain ⟨q',hq,rfl⟩:=Ww.1 h;simp [fromB_len bs q' hq]
  ·rcases Xd.1 h with h | h
   ·obtain ⟨q',hq,rfl⟩:=Ww.1 h;simp [fromB_len bs q' hq]
   ·obtain ⟨q',hq,rfl⟩:=Ww.1 h;simp [fromB_len (List.replicate bs.length false) q' hq]
 termination_by l=>l.length
 decreasing_by all_goals simp
def stopV (x:Inst) (v:Vis):Stp:=if v.drp=true then (nth x.orders v.order.toNat).drp else (nth x.orders v.order.toNat).pick
def Xw (x:Inst) (l:List Vis):List Stp:=l.map (stopV x)
def WA (t:Typ) (s:Int):Bool:=decide (0<=t.skills)&&decide (0<=s)&&(List.range 63).all fun i=> !s.toNat.testBit i||t.skills.toNat.testBit i
def UK (a c:List Int):Bool:=decide (a.length=c.length)&&(List.range a.length).all fun i=>decide (nth a i<=nth c i)
def US (x:Inst) (c:List Int) (l:List Vis):Bool:=(List.range (l.length+1)).all fun n=>UK (Y9 x l n) c
def ZX (x:Inst) (r:Rte):Typ:=nth x.types r.typ.toNat
def Uo (l:List Vis) (i:Nat):Bool:= !((l.take i).any fun v=>decide (v.order=(nth l i).order))
def Xj (k t:Int):Bool:=decide (k≠ -1)&&decide (k≠t)
def chgF (x:Inst) (l:List Vis) (t:Int):Nat->Int×Int
 | 0=>(0,0)
 | n+1=>if Uo l n=true then ((chgF x l t n).1+(if Xj (nth x.orders (nth l n).order.toNat).now t=true then 1 else 0),(chgF x l t n).2+(if Xj (nth x.orders (nth l n).order.toNat).last t=true then 1 else 0)) else chgF x l t n
def Mt (x:Inst) (r:Rte) (s:She):Sco :=
 ⟨(ZX x r).fixed+(ZX x r).perMile*s.miles+(ZX x r).perTick*(s.fin-(ZX x r).opn),(chgF x r.visits r.typ r.visits.length).1,(chgF x r.visits r.typ r.visits.length).2,(s.fin-(ZX x r).opn).tdiv 64*(s.fin-(ZX x r).opn).tdiv 64⟩
def X9 (x:Inst) (r:Rte):Int :=
 if ¬(0<=r.typ/\r.typ<(x.types.length:Int)) then 2
 else if ¬Xr x r.visits=0 then Xr x r.visits
 else if (r.visits.any fun v=> !WA (ZX x r) (nth x.orders v.order.toNat).skills)=true then 18
 else if US x (ZX x r).cap r.visits=false then 17
 else if ¬(0<=r.start/\r.start<=4096/\r.rests.length<=r.visits.length+1) then 2
 else 0
def XF (x:Inst) (r:Rte):She×Int:=Ui x (ZX x r) (Xw x r.visits) r.start r.rests
def Xb (x:Inst) (r:Rte):Int:=if X9 x r=0 then (XF x r).2 else X9 x r
def XG (x:Inst) (r:Rte):She:=if Xb x r=0 then (XF x r).1 else zShe
def QB (x:Inst) (r:Rte):Sco:=if Xb x r=0 then Mt x r (XF x r).1 else zSco
def Zct : Stp:=⟨0,0,0,0⟩
def Pj (x:Inst) (v:Vis):Bool:=decide (0<=v.order)&&decide (v.order<(x.orders.length:Int))
def Ky (x:Inst) (v:Vis):Bool:=Pj x v&&decide (0<=(stopV x v).place)
def BZ (x:Inst) (v:Vis):Stp:=if Pj x v=true then stopV x v else Zct
theorem MF (x:Inst) (v:Vis) (ho:x.orders.length<=1048576):PT 186 [.p (Zv x),.p (ZS v)] [.p (HF (BZ x v)),.p (.bool (Ky x v))]:=by
 refine Ze [] Tryz.func186 rfl zG ?_;simp (disch:=omega) only [Tryz.f186,go_sem,seval];refine gF ?_ ?_<;>intro h1<;>simp (disch:=omega) only [Sh.out h1,go_sem,seval,↓reduceIte]
 ·have e:Pj x v=false:=by
   grind [Pj]
  simp only [BZ,Ky,e,Vs,Wu,Yy,Zct];exact we
 ·refine cD ?_ ?_<;>intro h2<;>simp (disch:=omega) only [Sh.out h2,go_sem,seval,↓reduceIte]
  ·have e:Pj x v=false:=by
    grind [Pj]
   simp only [BZ,Ky,e,Vs,Wu,Yy,Zct];exact we
  ·have e:Pj x v=true:=by simp [Pj];omega
   have hi:v.order.toNat<x.orders.length:=Za
   refine cD ?_ ?_<;>intro hd<;>simp (disch:=omega) only [Sh.out hd,go_sem,seval,↓reduceIte]
   ·have hG:BZ x v=(nth x.orders v.order.toNat).drp:=by simp [BZ,e,stopV,hd]
    have hV:Ky x v=decide (0<=(nth x.orders v.order.toNat).drp.place):=by simp [Ky,e,stopV,hd]
    rw [hG,hV];refine I2 (.cons 0 (.cons 1 (.cons 2 (.cons 3 (.cons 4 (.cons 5 .nil .nil) .nil) (.cons 4 (.cons 3 (.cons 5 .nil .nil) .nil) .nil)) (.cons 4 (.cons 2 (.cons 3 (.cons 5 .nil .nil) .nil) .nil) .nil)) (.cons 4 (.cons 1 (.cons 2 (.cons 3 (.cons 5 .nil .nil) .nil) .nil) .nil) .nil)) (.cons 1 (.cons 0 (.cons 2 (.cons 3 (.cons 4 (.cons 5 .nil .nil) .nil) (.cons 4 (.cons 3 (.cons 5 .nil .nil) .nil) .nil)) (.cons 4 (.cons 2 (.cons 3 (.cons 5 .nil .nil) .nil) .nil) .nil)) (.cons 2 (.cons 0 (.cons 3 (.cons 4 (.cons 5 .nil .nil) .nil) (.cons 4 (.cons 3 (.cons 5 .nil .nil) .nil) .nil)) (.cons 3 (.cons 0 (.cons 4 (.cons 5 .nil .nil) .nil) .nil) .nil)) .nil)) .nil)) mixed Zd ?_
    refine X8 ?_
    repeat' first
     | refine FU ?_ ?_
     | exact we
     | simp (disch:=omega) only [go_sem,seval,↓reduceIte]
   ·have hG:BZ x v=(nth x.orders v.order.toNat).pick:=by simp [BZ,e,stopV,hd]
    have hV:Ky x v=decide (0<=(nth x.orders v.order.toNat).pick.place):=by simp [Ky,e,stopV,hd]
    rw [hG,hV];refine I2 (.cons 0 (.cons 1 (.cons 2 (.cons 3 (.cons 4 (.cons 5 .nil .nil) .nil) (.cons 4 (.cons 3 (.cons 5 .nil .nil) .nil) .nil)) (.cons 4 (.cons 2 (.cons 3 (.cons 5 .nil .nil) .nil) .nil) .nil)) (.cons 4 (.cons 1 (.cons 2 (.cons 3 (.cons 5 .nil .nil) .nil) .nil) .nil) .nil)) (.cons 1 (.cons 0 (.cons 2 (.cons 3 (.cons 4 (.cons 5 .nil .nil) .nil) (.cons 4 (.cons 3 (.cons 5 .nil .nil) .nil) .nil)) (.cons 4 (.cons 2 (.cons 3 (.cons 5 .nil .nil) .nil) .nil) .nil)) (.cons 2 (.cons 0 (.cons 3 (.cons 4 (.cons 5 .nil .nil) .nil) (.cons 4 (.cons 3 (.cons 5 .nil .nil) .nil) .nil)) (.cons 3 (.cons 0 (.cons 4 (.cons 5 .nil .nil) .nil) .nil) .nil)) .nil)) .nil)) mixed Zd ?_
    refine X8 ?_
    repeat' first
     | refine FU ?_ ?_
     | exact we
     | simp (disch:=omega) only [go_sem,seval,↓reduceIte]
def VN (x:Inst) (r:Rte):Bool:=(decide (0<=r.typ)&&decide (r.typ<(x.types.length:Int))&&decide (0<=r.start)&&decide (r.start<=4096)&&decide (r.visits.length<=20))&&r.visits.all (Ky x)
theorem EN (x:Inst) (r:Rte) (ho:x.orders.length<=1048576) (ht:x.types.length<=1048576) (hl:r.visits.length<=1048576):PC 141 [.p (Zv x),.p (Z0 r)] (.bool (VN x r)):=by
 refine Zc Tryz.func141 rfl yB ?_;simp (disch:=omega) only [Tryz.f141,go_sem,seval];refine gF ?_ ?_<;>intro h1<;>simp (disch:=omega) only [Sh.out h1,go_sem,seval,↓reduceIte]
 ·simp [VN];omega
 ·refine gF ?_ ?_<;>intro h2<;>simp (disch:=omega) only [Sh.out h2,go_sem,seval,↓reduceIte]
  ·simp [VN];omega
  ·refine gF ?_ ?_<;>intro h3<;>simp (disch:=omega) only [Sh.out h3,go_sem,seval,↓reduceIte]
   ·simp [VN];omega
   ·refine gF ?_ ?_<;>intro h4<;>simp (disch:=omega) only [Sh.out h4,go_sem,seval,↓reduceIte]
    ·simp [VN];omega
    ·refine cD ?_ ?_<;>intro h5<;>simp (disch:=omega) only [Sh.out h5,go_sem,seval]
     ·simp [VN];omega
     ·refine Zi [2,3] (fun k:Nat=> [(5,.p (.int .i64 k))]) (fun _=> [Zg x,ZK r]) (fun k=>k<=r.visits.length/\ ∀j,j<k->Ky x (nth r.visits j)=true) (fun k=>r.visits.length-k) 0 Zb (Weak.mk ?_) ?_
      ·simp (disch:=omega) only [Zg,ZK,go_sem,seval]
      ·rintro k ⟨hk,hno⟩;refine E9 ?_;refine cD ?_ ?_<;>intro h<;>simp (disch:=omega) only [Sh.out h,go_sem,seval,↓reduceIte]
       ·have hk2:k<r.visits.length:=Za
        refine Xo [10,11] 12 mixed Zd Zd Zd Zb (X8 ?_);refine QC (MF x (nth r.visits k) ho) (X8 ?_);refine ZV 10 _ _ Zd (by refine X8 ?_;exact ⟨rfl,rfl⟩) ?_;refine X8 ?_;refine ZV 11 _ _ Zd (by refine X8 ?_;exact ⟨rfl,rfl⟩) (Yo ?_);refine X8 ?_;refine ZB ?_ ?_<;>intro h6
        ·grind [Zn,VN]
        ·exact ⟨k+1,⟨Za,Zm.2 ⟨hno,by grind⟩⟩,Za,wk⟩
       ·have hkl:k=r.visits.length:=Za
        subst hkl
        have:r.visits.all (Ky x)=true:=by
         rw [Zw];intro v hv;obtain ⟨j,hj,rfl⟩:=Z4.1 hv
         grind [Zj]
        grind [VN]
@[go_sem high] theorem Zkm {k k':IntKind} {a b:Int} :M4 false [.p (.int k a),.p (.int k' b)]=some (.int k (max a b)):=by
 grind [M4]
theorem NO {l:List Tim} {m:Tim} {d:Int} {b:Bool} :Pw (l++ [m]) l.length d b=l++ [{ m with dep:=d,rest:=b }]:=by
 grind [Zj,Pw]
theorem Tg {x:Inst} {t:Typ} {sp:List Stp} {k:Nat} {d s m:Int} {h:She} (hk:k<sp.length) (ho:(nth sp k).opn<=(nth sp k).cls) (hm:h.miles=m) :
  (QV x t ⟨JM t sp k,d,s,m⟩ (nth sp k).place (nth sp k).cls 14).2=(WB t sp k (Wb x t sp k d) d s h).2 /\
  ((WB t sp k (Wb x t sp k d) d s h).2=0->(QV x t ⟨JM t sp k,d,s,m⟩ (nth sp k).place (nth sp k).cls 14).1=⟨(nth sp k).place,(Wb x t sp k d).1,s+(Wb x t sp k d).1-d,m+(Wb x t sp k d).2.1⟩ /\
   (WB t sp k (Wb x t sp k d) d s h).1=⟨max (Wb x t sp k d).1 (nth sp k).opn+(nth sp k).serv,s+(Wb x t sp k d).1-d,{ h with times_c:=false,times:=h.times++ [⟨(Wb x t sp k d).1,max (Wb x t sp k d).1 (nth sp k).opn,0,false⟩],miles:=m+(Wb x t sp k d).2.1 }⟩):=by
 have hne: ¬k=sp.length:=Za
 have e:Ub x.net t.prof (JM t sp k) (nth sp k).place d=Wb x t sp k d:=by simp [Wb,TE,hne]
 unfold QV WB
 grind
theorem Th {x:Inst} {t:Typ} {sp:List Stp} {d s m:Int} {h:She} (hm:h.miles=m) :
  (QV x t ⟨JM t sp sp.length,d,s,m⟩ t.dst t.cls 15).2=(WB t sp sp.length (Wb x t sp sp.length d) d s h).2 /\
  ((WB t sp sp.length (Wb x t sp sp.length d) d s h).2=0->(QV x t ⟨JM t sp sp.length,d,s,m⟩ t.dst t.cls 15).1=⟨t.dst,(Wb x t sp sp.length d).1,s+(Wb x t sp sp.length d).1-d,m+(Wb x t sp sp.length d).2.1⟩ /\
   (WB t sp sp.length (Wb x t sp sp.length d) d s h).1=⟨(Wb x t sp sp.length d).1,s+(Wb x t sp sp.length d).1-d,{ h with fin:=(Wb x t sp sp.length d).1,miles:=m+(Wb x t sp sp.length d).2.1 }⟩):=by
 have e:Ub x.net t.prof (JM t sp sp.length) t.dst d=Wb x t sp sp.length d:=by simp [Wb,TE]
 unfold QV WB
 grind
def Zce (s:StD):AM.Obj:= .cells [.p (.int .i64 s.place),.p (.int .i64 s.time),.p (.int .i64 s.driven),.p (.int .i64 s.miles)]
def Qz (t:Typ) (sp:List Stp) (k:Nat) (L:Lab) (b:Bool):StD:=⟨JM t sp k,ZR t L b,W1 L b,L.she.miles⟩
theorem ZjV {g:FuncId} {args:List V} {a c:PV} {H:List AM.Obj} {K:V->List AM.Obj->Prop} (h:ACalls Tryz.prog g args [] fun x H'=> ∃b:PV,x= .tup [.p a,.p b,.p c]/\H'= []) (k: ∀b:PV,K (.tup [.p a,.p b,.p c]) H) (ha:Xf 0 args=true:=by rfl):ACalls Tryz.prog g args H K :=
 (h.behind ha H).mono fun x H' hq=>by
  obtain ⟨y,H1,⟨b,rfl,rfl⟩,rfl,rfl⟩:=hq
  grind [shV,shVs]
theorem Yg {x:Inst} {l:List Vis} :(Xw x l).length=l.length:=by simp [Xw]
theorem E8 {x:Inst} {l:List Vis} {k:Nat} (h:k<l.length):nth (Xw x l) k=stopV x (nth l k):=by
 grind [Zj,Xw]
theorem V4 {P Q:Prop} (h:Q) (e:Q->P:=by intro h;simp (disch:=omega) only [Zu,Zk,X7,Z9,go_sem,seval];exact h):P:=e h
theorem pN (x:Inst) (r:Rte) (rests:List Bool) (c:Bool) (hok:TrpOk x (ZX x r) (Xw x r.visits)) (ho:x.orders.length<=1048576) (ht:x.types.length<=1048576) (hne:0<r.visits.length) (hp:VN x r=true) (hl:rests.length=r.visits.length+1) :
  ACalls Tryz.prog 187 [.p (Zv x),.p (Z0 r),.p (.list c (rests.map eB))] [] fun y H'=> ∃d:PV,y= .tup [.p (Bc (XK x (ZX x r) (Xw x r.visits) 0 (XB (ZX x r) r.start) rests).1.she),.p d,.p (.int .i64 (XK x (ZX x r) (Xw x r.visits) 0 (XB (ZX x r) r.start) rests).2)]/\H'= []:=by
 have hp2:=hp;simp only [VN,ZG,Zr] at hp2;obtain ⟨⟨⟨⟨⟨p1,p2⟩,p3⟩,p4⟩,p5⟩,p6⟩:=hp2;have hvis: ∀k,k<r.visits.length->Ky x (nth r.visits k)=true:=fun k hk=>Zw.1 p6 _ (Zn hk)
 have hstop: ∀k,k<r.visits.length->BZ x (nth r.visits k)=nth (Xw x r.visits) k:=fun k hk=>by
  simp_all [Ky,BZ,E8]
 have hti:r.typ.toNat<x.types.length:=Za
 have hopn:=hok.opn;have hrst:=hok.rst;have htd:ZX x r=nth x.types r.typ.toNat:=rfl
 generalize hT:ZX x r=t at *
 have hsl:(Xw x r.visits).length=r.visits.length:=Yg
 generalize hS:Xw x r.visits=sp at *
 refine Ze [26] Tryz.func187 rfl zH ?_;simp (disch:=omega) only [Tryz.f187,go_sem,seval];refine (EN x r ho ht Za).use (X8 ?_);rw [hp];refine X8 ?_;refine cD ?_ ?_<;>intro h0<;>simp (disch:=omega) only [Sh.out h0,<- htd,go_sem,seval,↓reduceIte]
 ·omega
 ·refine Xo [13] 14 mixed Zd Zd Zd Zb (X8 ?_);refine Zq (Md t ⟨t.src,max t.opn r.start,0,0⟩ (nth rests 0) (by grind)) (X8 ?_);refine ZV 13 _ _ Zd (by refine X8 ?_;exact ⟨rfl,rfl⟩) (Yo ?_);refine X8 ?_;refine Xo [6] 7 mixed Zd Zd Zd Zb (X8 ?_);refine ZV 6 _ _ Zd (by refine X8 ?_;exact ⟨rfl,rfl⟩) (Yo ?_);refine X8 ?_;have hL0:LabR 0 (XB t r.start):=⟨by grind [XB],by simp [XB],by simp [XB,zShe]⟩
  have hS0:ER t ⟨t.src,max t.opn r.start,0,0⟩ (nth rests 0)=Qz t sp 0 (XB t r.start) (nth rests 0):=by
   simp only [ER,Qz,JM,ZR,W1,XB,zShe,if_true]
   split<;>rfl
  simp (disch:=omega) only [hS0,go_sem,seval]
  refine ZI [26] [2,3,4,6,9,10,11] (fun q:Nat×Lab×List Int=> [(12,.sl 7 0 q.2.2.length q.2.2.length),(13,.p (.int .i64 q.1))])
   (fun q=> [Zg x,ZK r,.cells [.p (.bool false),.p (.int .i64 0),.p (.list true []),.p (.int .i64 0),.p (.int .i64 0)],X2 t,Zce (Qz t sp q.1 q.2.1 (nth rests q.1)),
    .cells [.p (.bool (XM q.1 (ZR t q.2.1 (nth rests q.1)) (nth rests q.1) q.2.1.she).rest),.p (.int .i64 (XM q.1 (ZR t q.2.1 (nth rests q.1)) (nth rests q.1) q.2.1.she).dep),.sl 6 0 (XM q.1 (ZR t q.2.1 (nth rests q.1)) (nth rests q.1) q.2.1.she).times.length (XM q.1 (ZR t q.2.1 (nth rests q.1)) (nth rests q.1) q.2.1.she).times.length,.p (.int .i64 0),.p (.int .i64 0)],
    .elems 4 ((XM q.1 (ZR t q.2.1 (nth rests q.1)) (nth rests q.1) q.2.1.she).times.map eTim),.elems 1 (q.2.2.map eI)])
   (fun q=>q.1<=r.visits.length/\XK x t sp 0 (XB t r.start) rests=XK x t sp q.1 q.2.1 (rests.drop q.1)/\LabR q.1 q.2.1/\q.2.1.she.times.length=q.1/\q.2.1.she.fin=0/\(0<q.1->q.2.1.she.times_c=false)/\q.2.2.length=q.1) (fun q=>r.visits.length-q.1) (0,XB t r.start,[])
   ⟨Zb,Zb,hL0,by rfl,by rfl,Zb,Zb⟩ ((Weak.nilC (o:=5) (j:=2) 4 rfl rfl Zb).trans (Weak.ofNil 12 1 rfl Zb (Weak.mk ?_))) ?_
  ·simp (disch:=omega) only [Zg,ZK,X2,Zce,Qz,JM,XM,XB,zShe,Zk,ZH,X7,Z9,Xu,ZF,go_sem,seval]
  ·rintro ⟨k,L,ds⟩ ⟨hk,hrun,hL,hlen,hfin,hclip,hds⟩;simp only at hk hrun hL hlen hfin hclip hds
   have hmlen:(XM k (ZR t L (nth rests k)) (nth rests k) L.she).times.length=k:=by grind [K4]
   have hd:=JV hok hL (nth rests k);have hs:=E7 hL (nth rests k);have hg:=HN hok hL (nth rests k);have hmi:=hL.mil
   generalize hm:XM k (ZR t L (nth rests k)) (nth rests k) L.she=m at *
   have hmm:m.miles=L.she.miles:=by rw [<- hm,J6]
   have hmf:m.fin=0:=by grind [Gy]
   have hdrop:rests.drop k=nth rests k::rests.drop (k+1):=by grind [Vq,Zj]
   have hnx:Yk x t sp k L (nth rests k)=WB t sp k (Wb x t sp k (ZR t L (nth rests k))) (ZR t L (nth rests k)) (W1 L (nth rests k)) m:=by rw [Yk,hm]
   rw [hdrop,XK] at hrun;simp (disch:=omega) only [Zg,ZK,X2,Zce,go_sem,seval];refine cD ?_ ?_<;>intro h<;>simp (disch:=omega) only [Sh.out h,go_sem,seval,↓reduceIte]
   ·have hk2:k<r.visits.length:=Za
    have hsp:=hok.stp _ (ZN (show k<sp.length by omega));refine Xo [10,11] 12 mixed Zd Zd Zd Zb (X8 ?_);refine QC (MF x (nth r.visits k) ho) (X8 ?_);refine ZV 10 _ _ Zd (by refine X8 ?_;exact ⟨rfl,rfl⟩) ?_;refine X8 ?_;refine ZV 11 _ _ Zd (by refine X8 ?_;exact ⟨rfl,rfl⟩) (Yo ?_);simp (disch:=omega) only [hstop k hk2,go_sem,seval];obtain ⟨f1,f2⟩:=Tg (x:=x) (t:=t) (d:=ZR t L (nth rests k)) (s:=W1 L (nth rests k)) (h:=m) (show k<sp.length by omega) hsp.2.1 hmm
    have he2:Ub x.net t.prof (JM t sp k) (nth sp k).place (ZR t L (nth rests k))=Wb x t sp k (ZR t L (nth rests k)):=by
     grind [Wb,TE]
    refine X6 (ME x t (Qz t sp k L (nth rests k)) (nth sp k).place (nth sp k).cls 14 hok.net ?_ ?_ ?_ ?_) ?_
    ·grind [Qz]
    ·grind [Qz,TK]
    ·grind [Qz,TK]
    ·grind [Qz,TK]
    have f1':(QV x t (Qz t sp k L (nth rests k)) (nth sp k).place (nth sp k).cls 14).2=(Yk x t sp k L (nth rests k)).2:=by rw [hnx,<- f1];rfl
    refine X8 ?_;rw [f1'];refine cD ?_ ?_<;>intro h3<;>simp (disch:=omega) only [Sh.out h3,go_sem,seval,↓reduceIte]
    ·rw [if_neg h3] at hrun;rw [hrun];simp only [Wo,zShe];exact ⟨_,_,Weak.mk (by simp (disch:=omega) only [Zk,go_sem,seval]),.list true [],rfl,rfl⟩
    ·have h3':(Yk x t sp k L (nth rests k)).2=0:=Xl.1 h3;rw [if_pos h3'] at hrun;have hL':=H4 hok Za hL h3';rw [hnx] at h3';obtain ⟨f3,f4⟩:=f2 h3';have f3':(QV x t (Qz t sp k L (nth rests k)) (nth sp k).place (nth sp k).cls 14).1=⟨(nth sp k).place,(Wb x t sp k (ZR t L (nth rests k))).1,W1 L (nth rests k)+(Wb x t sp k (ZR t L (nth rests k))).1-ZR t L (nth rests k),L.she.miles+(Wb x t sp k (ZR t L (nth rests k))).2.1⟩:=f3
     have hL2:(Yk x t sp k L (nth rests k)).1=⟨max (Wb x t sp k (ZR t L (nth rests k))).1 (nth sp k).opn+(nth sp k).serv,W1 L (nth rests k)+(Wb x t sp k (ZR t L (nth rests k))).1-ZR t L (nth rests k),{ m with times_c:=false,times:=m.times++ [⟨(Wb x t sp k (ZR t L (nth rests k))).1,max (Wb x t sp k (ZR t L (nth rests k))).1 (nth sp k).opn,0,false⟩],miles:=L.she.miles+(Wb x t sp k (ZR t L (nth rests k))).2.1 }⟩:=by grind
     simp (disch:=omega) only [f3',go_sem,seval];refine Xo [13] 14 mixed Zd Zd Zd Zb (X8 ?_);refine ZV 13 _ _ Zd (by refine X8 ?_;exact ⟨rfl,rfl⟩) (Yo ?_);refine X8 ?_
     generalize (Yk x t sp k L (nth rests k)).1=L2 at *
     have hS1:ER t ⟨(nth sp k).place,max (Wb x t sp k (ZR t L (nth rests k))).1 (nth sp k).opn+(nth sp k).serv,W1 L (nth rests k)+(Wb x t sp k (ZR t L (nth rests k))).1-ZR t L (nth rests k),L.she.miles+(Wb x t sp k (ZR t L (nth rests k))).2.1⟩ (nth rests (k+1))=Qz t sp (k+1) L2 (nth rests (k+1)):=by
      rw [hL2];simp only [ER,Qz,JM,ZR,W1,Nat.add_sub_cancel,if_neg (show ¬k+1=0 by omega)]
      split<;>rfl
     have hM:XM (k+1) (ZR t L2 (nth rests (k+1))) (nth rests (k+1)) L2.she= { m with times_c:=false,times:=m.times++ [⟨(Wb x t sp k (ZR t L (nth rests k))).1,max (Wb x t sp k (ZR t L (nth rests k))).1 (nth sp k).opn,ZR t L2 (nth rests (k+1)),nth rests (k+1)⟩],miles:=L.she.miles+(Wb x t sp k (ZR t L (nth rests k))).2.1 } :=by
      have he:L2.she= { m with times_c:=false,times:=m.times++ [⟨(Wb x t sp k (ZR t L (nth rests k))).1,max (Wb x t sp k (ZR t L (nth rests k))).1 (nth sp k).opn,0,false⟩],miles:=L.she.miles+(Wb x t sp k (ZR t L (nth rests k))).2.1 } :=by rw [hL2]
      rw [he,XM,if_neg Za,Nat.add_sub_cancel]
      grind [NO]
     have hd2:=JV hok hL' (nth rests (k+1));refine Z3 8 mixed Zd Zd (X8 ?_);refine Zq (Md t ⟨(nth sp k).place,max (Wb x t sp k (ZR t L (nth rests k))).1 (nth sp k).opn+(nth sp k).serv,W1 L (nth rests k)+(Wb x t sp k (ZR t L (nth rests k))).1-ZR t L (nth rests k),L.she.miles+(Wb x t sp k (ZR t L (nth rests k))).2.1⟩ (nth rests (k+1)) (by grind)) (X8 ?_);simp (disch:=omega) only [hS1,go_sem,seval];refine ⟨(k+1,L2,ds++ [L2.since]),⟨Za,hrun,hL',by grind,by grind,by grind,by simp [hds]⟩,Za,Weak.mk ?_⟩
     simp (disch:=omega) only [hM,hmlen,ZQ,Zs,ZH,Xm,Zu,Zk,go_sem,seval];exact ⟨rfl,by grind⟩
   ·have hkl:k=sp.length:=Za
    subst hkl;obtain ⟨f1,f2⟩:=Th (x:=x) (t:=t) (sp:=sp) (d:=ZR t L (nth rests sp.length)) (s:=W1 L (nth rests sp.length)) (h:=m) hmm
    have he2:Ub x.net t.prof (JM t sp sp.length) t.dst (ZR t L (nth rests sp.length))=Wb x t sp sp.length (ZR t L (nth rests sp.length)):=by simp [Wb,TE]
    refine X6 (ME x t (Qz t sp sp.length L (nth rests sp.length)) t.dst t.cls 15 hok.net ?_ ?_ ?_ ?_) ?_
    ·grind [Qz]
    ·grind [Qz,TK]
    ·grind [Qz,TK]
    ·grind [Qz,TK]
    have f1':(QV x t (Qz t sp sp.length L (nth rests sp.length)) t.dst t.cls 15).2=(Yk x t sp sp.length L (nth rests sp.length)).2:=by rw [hnx,<- f1];rfl
    refine X8 ?_;rw [f1'];have hdl:rests.drop (sp.length+1)= []:=Dv Za;rw [hdl,XK] at hrun;refine cD ?_ ?_<;>intro h3<;>simp (disch:=omega) only [Sh.out h3,go_sem,seval,↓reduceIte]
    ·rw [if_neg h3] at hrun;rw [hrun];simp only [Wo,zShe];exact ⟨_,_,Weak.mk (by simp (disch:=omega) only [Zk,go_sem,seval]),.list true [],rfl,rfl⟩
    ·have h3':(Yk x t sp sp.length L (nth rests sp.length)).2=0:=Xl.1 h3;rw [if_pos h3'] at hrun;rw [hnx] at h3';obtain ⟨f3,f4⟩:=f2 h3';have f3':(QV x t (Qz t sp sp.length L (nth rests sp.length)) t.dst t.cls 15).1=⟨t.dst,(Wb x t sp sp.length (ZR t L (nth rests sp.length))).1,W1 L (nth rests sp.length)+(Wb x t sp sp.length (ZR t L (nth rests sp.length))).1-ZR t L (nth rests sp.length),L.she.miles+(Wb x t sp sp.length (ZR t L (nth rests sp.length))).2.1⟩:=f3;rw [hrun,hnx,f4];simp (disch:=omega) only [f3',go_sem,seval];refine Zp (Weak.fz (o:=6) (by rfl)) ?_
     refine Zp (Weak.fz (o:=7) (by rfl)) (Zf [] _ _ _ _ (V4 ?_))
     have hmc:m.times_c=false:=by
      grind [XM]
     exact ⟨_,_,Weak.mk (by simp (disch:=omega) only [hmc,go_sem,seval]),.list false (ds.map eI++ [.int .i64 (W1 L (nth rests sp.length)+(Wb x t sp sp.length (ZR t L (nth rests sp.length))).1-ZR t L (nth rests sp.length))]),rfl,rfl⟩
theorem kL (x:Inst) (r:Rte) (rests:List Bool) (c:Bool) (hok:TrpOk x (ZX x r) (Xw x r.visits)) (ho:x.orders.length<=1048576) (ht:x.types.length<=1048576) (hne:0<r.visits.length) (hp:VN x r=true) (hl:rests.length=r.visits.length+1) :
  PT 142 [.p (Zv x),.p (Z0 r),.p (.list c (rests.map eB))] [.p (Bc (XK x (ZX x r) (Xw x r.visits) 0 (XB (ZX x r) r.start) rests).1.she),.p (.int .i64 (XK x (ZX x r) (Xw x r.visits) 0 (XB (ZX x r) r.start) rests).2)]:=by
 have cr:=pN x r rests c hok ho ht hne hp hl;generalize (XK x (ZX x r) (Xw x r.visits) 0 (XB (ZX x r) r.start) rests)=q at cr ⊢;obtain ⟨L,e⟩:=q;refine Ze [] Tryz.func142 rfl yC ?_;simp (disch:=omega) only [Tryz.f142,go_sem,seval];refine ZjV cr fun d=>X8 ?_;exact we
def C0 (l:List Bool) (n:Nat):Option (List Bool):=(Ye (l.drop n)).map (l.take n++ ·)
def NW : Option (List Bool)->PV
 | some l=> .list false (l.map eB)
 | none=> .list true []
theorem J9 : ∀m:Nat,Ye (List.replicate m true)=none
 | 0=>rfl
 | m+1=>by rw [Jn,Ye,J9 m];rfl
theorem GC : ∀(a b r:List Bool),Ye b=some r->Ye (a++b)=some (a++r)
 | [],b,r,h=>h
 | x::a,b,r,h=>by rw [Xu,Ye,GC a b r h];rfl
theorem fC (a:List Bool) (m:Nat):Ye (a++false::List.replicate m true)=some (a++true::List.replicate m false):=by
 grind [GC,Ye,J9]
theorem Mx {o:List Bool} {i:Nat} {b:Bool} :(o.map eB).set i (.bool b)=(o.set i b).map eB:=by rw [W6];rfl
theorem fB (l:List Bool) (c:Bool) (n:Nat) (hn:n<=l.length) (h0:0<l.length) (hl:l.length<=1048576):PT 143 [.p (.list c (l.map eB)),.p (.int .i64 (n:Nat))] [.p (NW (C0 l n)),.p (.bool (C0 l n).isSome)]:=by
 refine Ze [8] Tryz.func143 rfl yD ?_;simp (disch:=omega) only [Tryz.f143,go_sem,seval];rw [if_pos ⟨Za,Za⟩];refine X8 ?_;refine ZI [8] [1] (fun q:Nat×List Bool=> [(6,.sl 0 0 q.2.length q.2.length),(7,.p (.int .i64 ((q.1:Int)-1)))]) (fun q=> [.elems 1 (q.2.map eB)]) (fun q=>n<=q.1/\q.1<=l.length/\q.2=l.take q.1++List.replicate (l.length-q.1) false/\l.drop q.1=List.replicate (l.length-q.1) true) (fun q=>q.1) (l.length,l) (by simp;omega) (Weak.mk ?_) ?_
 ·simp (disch:=omega) only [go_sem,seval]
 ·rintro ⟨j,o⟩ ⟨hj1,hj2,ho,hjt⟩;simp only at hj1 hj2 ho hjt
  have hol:o.length=l.length:=by grind
  refine X8 ?_;refine cD ?_ ?_<;>intro h<;>simp (disch:=omega) only [Sh.out h,go_sem,seval,↓reduceIte]
  ·obtain ⟨i,rfl⟩: ∃i,j=i+1:=⟨j-1,Za⟩
   have hij:(((i+1:Nat):Int)-1)=(i:Int):=Za
   have hat:nth o i=nth l i:=by
    grind [Zj]
   have MV:l.drop i=nth l i::List.replicate (l.length-(i+1)) true:=by
    grind [Vq,Zj]
   have hio:i<o.length:=Za
   simp (disch:=first | omega | (simp only [Zs,ZH,ZQ,Xp,ZA,Xg]<;>omega)) only [Int.add_sub_cancel,WK,hat,hio,go_sem,seval,↓reduceIte];refine cD ?_ ?_<;>intro h2<;>simp (disch:=omega) only [Sh.out h2,go_sem,seval]
   ·have hf:nth l i=false:=by grind
    have hres:C0 l n=some (o.set i true):=by
     rw [hf] at MV
     have e:l.drop n=(l.drop n).take (i-n)++false::List.replicate (l.length-(i+1)) true:=by
      rw [<- MV,show l.drop i=(l.drop n).drop (i-n) by simp_all,List.take_append_drop]
     rw [C0,e,fC,ho];simp only [Bv,XT]
     have e2:l.take (i+1)=l.take n++(l.drop n).take (i-n)++ [nth l i]:=by
      rw [Zx Za,Zj Za]
      congr 1
      have:l.take i=l.take (n+(i-n)):=by congr 1;omega
      grind
     rw [e2,hf]
     have el:(l.take n++(l.drop n).take (i-n)).length=i:=by simp;omega
     rw [VV (l.take n++(l.drop n).take (i-n)),List.set_append_right _ _ Za,el];simp
    rw [hres];simp (disch:=first | omega | (simp only [Zs,ZH,ZQ,Xp,ZA,Xg]<;>omega)) only [Mx,go_sem,seval,↓reduceIte];refine Zp (Weak.fz (o:=0) (by rfl)) ?_;refine Zf [] _ _ _ _ ?_;simp (disch:=omega) only [Zu,Zk,Z9,go_sem,seval];simp only [KY,if_true];exact we (by simp (disch:=omega) only [NW,Jw,go_sem,seval])
   ·have hf:nth l i=true:=by grind
    simp (disch:=first | omega | (simp only [Zs,ZH,ZQ,Xp,ZA,Xg]<;>omega)) only [Mx,go_sem,seval];refine ⟨(i,o.set i false),⟨Za,Za,?_,?_⟩,Za,Weak.mk (by simp (disch:=first | omega | (simp only [Zs,ZH,ZQ,Xp,ZA,Xg]<;>omega)) only [KY,go_sem,seval])⟩
    ·grind
    grind
  ·have hjn:j=n:=Za
   have hres:C0 l n=none:=by grind [C0,J9]
   rw [hres];exact we (by simp (disch:=omega) only [NW,KU,go_sem,seval])
theorem Sk {r q:List Bool} :C0 (r++q) r.length=(Ye q).map (r++ ·):=by simp [C0]
theorem Sz {l:List Bool} :NW (some l)= .list false (l.map eB):=rfl
theorem Sy : NW none= .list true []:=rfl
def FL (b:Option Lab):She:=match b with | some L=>L.she | none=>zShe
def FD (r:List Bool) (cur:Option (List Bool)):List (List Bool):=match cur with | some q=>(Y3 q).map (r++ ·) | none=> []
theorem CG {r s:List Bool} :FD r (some s)=(r++s)::FD r (Ye s):=by
 grind [FD,fromB_next]
theorem Ml {x:Inst} {t:Typ} {sp:List Stp} : ∀(bs:List Bool) (k:Nat) (L:Lab),¬(XK x t sp k L bs).2=0->(XK x t sp k L bs).1=Wo
 | [],k,L,h=>by simp [XK] at h
 | b::bs,k,L,h=>by
  rw [XK] at h ⊢
  split
  ·rename_i c;rw [if_pos c] at h;exact Ml bs _ _ h
  ·rfl
theorem aI (x:Inst) (r:Rte) (hok:TrpOk x (ZX x r) (Xw x r.visits)) (ho:x.orders.length<=1048576) (ht:x.types.length<=1048576) (hne:0<r.visits.length) (hp:VN x r=true) (hl:r.rests.length<=r.visits.length+1) :
  PT 89 [.p (Zv x),.p (Z0 r)] [.p (Bc (XF x r).1),.p (.int .i64 (XF x r).2)]:=by
 have hsl:(Xw x r.visits).length=r.visits.length:=Yg;have hp2:=hp;simp only [VN,ZG,Zr] at hp2;have hv20:=hp2.1.2;have hrun:=fun rests (c:Bool) (h:rests.length=r.visits.length+1)=>kL x r rests c hok ho ht hne hp h;have hopt:=fun bs=>VO (x:=x) (t:=ZX x r) (sp:=Xw x r.visits) bs 0 (XB (ZX x r) r.start);unfold XF Ui
 generalize hS:Xw x r.visits=sp at *
 generalize ZX x r=t at *
 generalize XB t r.start=L0 at *
 refine Ze [5,6] Tryz.func89 rfl sZ ?_;simp (disch:=omega) only [Tryz.f89,go_sem,seval];refine (EN x r ho ht Za).use (X8 ?_);rw [hp];refine X8 ?_;refine cD ?_ ?_<;>intro h0<;>simp (disch:=omega) only [Sh.out h0,go_sem,seval,↓reduceIte]
 ·omega
 ·refine VC (Ho 3 rfl rfl (X8 ?_));refine ⟨_,_,L1 (e:=4) rfl Tryz.underlying46 Zd rfl rfl rfl ?_ ?_ ?_,?_⟩
  ·simp
  ·simp;omega
  ·intro q hq;obtain ⟨b,_,rfl⟩:=Ww.1 hq
   rfl
  ·have hpl:(Y6 r.rests (sp.length+1)).length=r.visits.length+1:=by simp [Y6];omega
   have hpad:r.rests.map eB++(PV.bool false::List.replicate r.visits.length (PV.bool false)).drop (r.rests.map eB).length=(Y6 r.rests (sp.length+1)).map eB:=by
    rw [Y6,Xm,<- Jn,List.drop_replicate,List.map_replicate,hsl,Xp];rfl
   simp only [X7,Z9];rw [hpad];have h0r:=hopt (Y6 r.rests (sp.length+1))
   have cn: ∀s:List Bool,(r.rests++s).length=r.visits.length+1->PT 143 [.p (.list false ((r.rests++s).map eB)),.p (.int .i64 (r.rests.length:Nat))] [.p (NW ((Ye s).map (r.rests++ ·))),.p (.bool ((Ye s).map (r.rests++ ·)).isSome)]:=fun s hs=>by
    grind [fB,Sk]
   have e1:(XK x t sp 0 L0 (Y6 r.rests (sp.length+1))).1.she=FL (Vg (XP x t sp) 0 L0 (Y6 r.rests (sp.length+1))):=by
    rw [h0r]
    split
    ·rfl
    ·rename_i c;rw [Ml _ _ _ c];rfl
   have e2:decide ((XK x t sp 0 L0 (Y6 r.rests (sp.length+1))).2=0)=(Vg (XP x t sp) 0 L0 (Y6 r.rests (sp.length+1))).isSome:=by
    grind
   have hrp:=hrun (Y6 r.rests (sp.length+1)) false hpl;have YB:YY r.rests (sp.length+1)=FD r.rests (some (List.replicate (sp.length+1-r.rests.length) false)):=rfl;refine Zp (Weak.fz (o:=3) (by rfl)) (Zf [] _ _ _ _ (V4 ?_));rw [if_pos hpl];refine X6 hrp (X8 ?_);refine X6 (cn (List.replicate (sp.length+1-r.rests.length) false) hpl) ?_;simp (disch:=omega) only [e1,e2,go_sem,seval]
   have hfm:Vh Wa none ((YY r.rests (sp.length+1)).filterMap (Vg (XP x t sp) 0 L0))=Vh Wa (Vg (XP x t sp) 0 L0 (Y6 r.rests (sp.length+1))) ((FD r.rests (Ye (List.replicate (sp.length+1-r.rests.length) false))).filterMap (Vg (XP x t sp) 0 L0)):=by
    rw [YB,CG,List.filterMap_cons];rw [show r.rests++List.replicate (sp.length+1-r.rests.length) false=Y6 r.rests (sp.length+1) from rfl]
    cases Vg (XP x t sp) 0 L0 (Y6 r.rests (sp.length+1)) with
    | none=>rfl
    | some L=>rfl
   clear YB;generalize Vh Wa none ((YY r.rests (sp.length+1)).filterMap (Vg (XP x t sp) 0 L0))=res at hfm ⊢;generalize (XK x t sp 0 L0 (Y6 r.rests (sp.length+1))).2=err0
   refine Zi [2,3,4,8,9] (fun q:Option (List Bool)×Option Lab=> [(7,.p (NW (q.1.map (r.rests++ ·)))),(10,.p (.bool q.2.isSome)),(11,.p (.bool (q.1.map (r.rests++ ·)).isSome))])
    (fun q=> [Zg x,ZK r,.cells [.p (.bool false),.p (.int .i64 0),.p (.list true []),.p (.int .i64 0),.p (.int .i64 0)],.dead,.cells [.p (.bool (FL q.2).rest),.p (.int .i64 (FL q.2).dep),.p (.list (FL q.2).times_c ((FL q.2).times.map eTim)),.p (.int .i64 (FL q.2).fin),.p (.int .i64 (FL q.2).miles)]])
    (fun q=>res=Vh Wa q.2 ((FD r.rests q.1).filterMap (Vg (XP x t sp) 0 L0))/\ ∀s,q.1=some s->s.length=sp.length+1-r.rests.length) (fun q=>(FD r.rests q.1).length)
    (Ye (List.replicate (sp.length+1-r.rests.length) false),Vg (XP x t sp) 0 L0 (Y6 r.rests (sp.length+1))) ⟨hfm,fun s hs=>by have:=fromB_next.nlen _ _ hs;grind⟩ (Weak.mk ?_) ?_
   ·simp (disch:=omega) only [Zg,ZK,go_sem,seval]
   ·rintro ⟨cur,b⟩ ⟨hR,hcl⟩;simp only at hR hcl
    cases cur with
    | none =>
     simp only [FD,List.filterMap_nil] at hR;simp (disch:=omega) only [Option.map_none,KU,Sy,Zg,ZK,go_sem,seval]
     cases b with
     | none =>
      rw [Vh] at hR;subst hR;simp (disch:=omega) only [KU,Jt,go_sem,seval];exact we (by simp (disch:=omega) only [zShe,Zk,go_sem,seval])
     | some m =>
      rw [Vh] at hR;subst hR;simp (disch:=omega) only [Jw,X1,FL,go_sem,seval];exact we
    | some s =>
     have hsl2:=hcl s rfl;rw [CG,List.filterMap_cons,hopt] at hR
     have hmu:(FD r.rests (Ye s)).length<(FD r.rests (some s)).length:=by rw [CG];simp
     have hnl: ∀s',Ye s=some s'->s'.length=sp.length+1-r.rests.length:=fun s' hs'=>by grind [fromB_next.nlen]
     have hlen:(r.rests++s).length=r.visits.length+1:=by simp;omega
     have hr1:=hrun (r.rests++s) false hlen;have cn1:=cn s hlen;rw [Xm] at hr1 cn1;simp (disch:=omega) only [Bv,Jw,Sz,Zg,ZK,go_sem,seval];generalize XK x t sp 0 L0 (r.rests++s)=g at hR hr1;obtain ⟨Lg,eg⟩:=g;simp only at hR hr1;refine X6 hr1 (X8 ?_);refine gT ?_ ?_<;>intro h1<;>simp (disch:=omega) only [Sh.out h1,go_sem,seval,↓reduceIte]
     ·subst h1
      cases b with
      | none =>
       simp (disch:=omega) only [KU,Jt,go_sem,seval];refine X6 cn1 (X8 ?_);exact ⟨(Ye s,some Lg),⟨hR,hnl⟩,hmu,Weak.mk (by simp (disch:=omega) only [FL,Jw,go_sem,seval])⟩
      | some m =>
       simp (disch:=omega) only [Jw,X1,FL,go_sem,seval];refine cD ?_ ?_<;>intro h2<;>simp (disch:=omega) only [Sh.out h2,go_sem,seval,↓reduceIte]
       ·refine X6 cn1 ?_;refine X8 ?_;exact ⟨(Ye s,some Lg),⟨by rw [hR];simp only [if_true,Vh,Wa,h2],hnl⟩,hmu,Weak.mk (by simp (disch:=omega) only [Jw,go_sem,seval])⟩
       ·refine X6 cn1 ?_;refine X8 ?_;exact ⟨(Ye s,some m),⟨by rw [hR];simp only [if_true,Vh,Wa,h2,Yy],hnl⟩,hmu,Weak.mk (by simp (disch:=omega) only [Jw,go_sem,seval])⟩
     ·rw [if_neg h1] at hR;refine X6 cn1 (X8 ?_);exact ⟨(Ye s,b),⟨hR,hnl⟩,hmu,wk⟩
def eR (p:Bool×List Int):PV:= .list p.1 (p.2.map eI)
@[go_sem] theorem ZoS (p:Bool×List Int):eR p= .list p.1 (p.2.map eI):=ZP rfl rfl
theorem bU (L:List (Bool×List Int)) (c:Bool) (d:Nat) (hd:d<=3) (hL:L.length<=1048576) (h: ∀p∈L,p.2.length=d):PC 283 [.p (.list c (L.map eR)),.p (.int .i64 (d:Nat))] (.bool true):=by
 refine Zc Tryz.func283 rfl ZaR ?_
 have e1: ¬(d:Int)<0:=Za
 have e2: ¬(3:Int)<d:=Za
 simp (disch:=omega) only [Tryz.f283,e1,e2,go_sem,seval];refine Zi [0,1] (fun k:Nat=> [(5,.p (.int .i64 k))]) (fun _=> []) (fun k=>k<=L.length) (fun k=>L.length-k) 0 Zb (Weak.mk ?_) ?_
 ·simp (disch:=omega) only [go_sem,seval,↓reduceIte]
 ·intro k hk;refine X8 ?_;refine cD ?_ ?_<;>intro h1<;>simp (disch:=omega) only [Sh.out h1,go_sem,seval,↓reduceIte]
  ·have hk2:k<L.length:=Za
   have hp:=h _ (Zn hk2);simp (disch:=omega) only [hp,go_sem,seval];exact ⟨k+1,Za,Za,wk⟩
def Dd (L:List (Bool×List Int)) (k j:Nat):Int:=((L.take k).map fun p=>nth p.2 j).sum
theorem F6 {L:List (Bool×List Int)} {k j:Nat} (h:k<L.length):Dd L (k+1) j=Dd L k j+nth (nth L k).2 j:=by
 grind [Dd,Zx,Zj]
theorem Lh {L:List (Bool×List Int)} {d j:Nat} (h: ∀p∈L,p.2.length=d/\ ∀n∈p.2,0<=n/\n<=1000) (hj:j<d): ∀k,k<=L.length->0<=Dd L k j/\Dd L k j<=1000*(k:Int)
 | 0,_=>by simp [Dd]
 | k+1,hk=>by
  have ih:=Lh h hj k Za;obtain ⟨h1,h2⟩:=h _ (Zn (show k<L.length by omega));have:=h2 _ (Zn (show j<(nth L k).2.length by omega))
  grind [F6]
def qC (L:List (Bool×List Int)) (d:Nat):List Int:=(List.range d).map fun j=>Dd L L.length j
theorem qB (L:List (Bool×List Int)) (c:Bool) (d:Nat) (hd:1<=d/\d<=3) (hL:L.length<=1048576) (h: ∀p∈L,p.2.length=d/\ ∀n∈p.2,0<=n/\n<=1000) :
  PT 247 [.p (.list c (L.map eR)),.p (.int .i64 (d:Nat))] [.p (.list false ((qC L d).map eI)),.p (.int .i64 0)]:=by
 refine Ze [13] Tryz.func247 rfl Zar ?_;simp (disch:=omega) only [Tryz.f247,go_sem,seval];refine (bU L c d hd.2 hL fun p hp=>(h p hp).1).use (X8 ?_);refine ZI [13] [0,1] (fun q:Nat×List Int=> [(6,.sl 0 0 q.2.length q.2.length),(7,.p (.int .i64 q.1))]) (fun q=> [.elems 1 (q.2.map eI)]) (fun q=>q.1<=d/\q.2=(List.range q.1).map fun j=>Dd L L.length j) (fun q=>d-q.1) (0,[]) Zb (Weak.ofNil 6 1 rfl Zb (Weak.mk ?_)) ?_
 ·simp (disch:=omega) only [Zk,ZH,go_sem,seval,↓reduceIte]
 ·rintro ⟨j,o⟩ ⟨hj,ho⟩;simp only at hj ho
  have hol:o.length=j:=by rw [ho];simp
  refine X8 ?_;refine cD ?_ ?_<;>intro h1<;>simp (disch:=omega) only [Sh.out h1,go_sem,seval,↓reduceIte]
  ·have hj2:j<d:=Za
   refine Zi [0,1,6,7] (fun k:Nat=> [(8,.p (.int .i64 (Dd L k j))),(9,.p (.int .i64 k))]) (fun _=> [.elems 1 (o.map eI)]) (fun k=>k<=L.length) (fun k=>L.length-k) 0 Zb (Weak.mk ?_) ?_
   ·simp (disch:=omega) only [Dd,Wx,Zk,List.sum_nil,go_sem,seval,↓reduceIte]
   ·intro k hk;refine X8 ?_;refine cD ?_ ?_<;>intro h2<;>simp (disch:=omega) only [Sh.out h2,go_sem,seval,↓reduceIte]
    ·have hk2:k<L.length:=Za
     obtain ⟨g1,g2⟩:=h _ (Zn hk2);have g3:=g2 _ (Zn (show j<(nth L k).2.length by omega));have g4:=Lh h hj2 k hk;have g5:=F6 (j:=j) hk2
     have g6:j<(nth L k).2.length:=Za
     refine X8 ?_;exact ⟨k+1,Za,Za,Weak.mk (by simp (disch:=omega) only [g5,go_sem,seval])⟩
    ·have hkl:k=L.length:=Za
     subst hkl;refine ⟨(j+1,o++ [Dd L L.length j]),⟨Za,by grind [VT]⟩,Za,Weak.mk (by simp (disch:=omega) only [ZQ,Zs,ZH,Xm,Zu,Zk,go_sem,seval])⟩
  ·have hjd:j=d:=Za
   subst hjd;refine Zp (Weak.fz (o:=0) (by rfl)) ?_;refine Zf [] _ _ _ _ ?_;simp (disch:=omega) only [Zu,Zk,Z9,go_sem,seval];rw [qC,<- ho];exact we
theorem cB (a b:List Int) (c d:Bool) (ha:a.length<=1048576) (hb:b.length<=1048576):PC 140 [.p (.list c (a.map eI)),.p (.list d (b.map eI))] (.bool (UK a b)):=by
 refine Zc Tryz.func140 rfl yA ?_;simp (disch:=omega) only [Tryz.f140,go_sem,seval];refine cD ?_ ?_<;>intro h1<;>simp (disch:=omega) only [Sh.out h1,go_sem,seval]
 ·grind [UK]
 ·have h1':a.length=b.length:=Za
  refine Zi [0,1] (fun k:Nat=> [(5,.p (.int .i64 k))]) (fun _=> []) (fun k=>k<=a.length/\ ∀j,j<k->nth a j<=nth b j) (fun k=>a.length-k) 0 Zb (Weak.mk ?_) ?_
  ·simp (disch:=omega) only [go_sem,seval,↓reduceIte]
  ·rintro k ⟨hk,hno⟩;refine X8 ?_;refine cD ?_ ?_<;>intro h2<;>simp (disch:=omega) only [Sh.out h2,go_sem,seval,↓reduceIte]
   ·have hk2:k<a.length:=Za
    refine Z6 (X8 ?_);refine cD ?_ ?_<;>intro h3<;>simp (disch:=omega) only [Sh.out h3,go_sem,seval,↓reduceIte]
    ·grind [UK]
    ·exact ⟨k+1,⟨Za,Zm.2 ⟨hno,Za⟩⟩,Za,wk⟩
   ·have hkl:k=a.length:=Za
    simp_all [UK]
theorem bM (x:Inst) (ht:x.types.length<=1048576):PC 248 [.p (Zv x)] (.int .i64 (dimsOf x.types)):=by
 refine Zc Tryz.func248 rfl Zas ?_;simp (disch:=omega) only [Tryz.f248,go_sem,seval];refine cD ?_ ?_<;>intro h1<;>simp (disch:=omega) only [Sh.out h1,go_sem,seval,↓reduceIte]
 ·grind [dimsOf]
 simp_all [dimsOf]
structure LdOk (x:Inst):Prop where
 ord:x.orders.length<=10
 typ:x.types.length<=1048576
 dim:1<=dimsOf x.types/\dimsOf x.types<=3
 load: ∀o∈x.orders,(o.load.length:Int)=dimsOf x.types/\ ∀n∈o.load,0<=n/\n<=1000
theorem UM {x:Inst} (h:InstOk x):LdOk x:=by
 have ht:=h.types.1;simp only [rng,Zr] at ht;have ho:=h.orders
 have h0:0<x.types.length:=Za
 have hcap:=h.types.2 0 h0;unfold Az at hcap;obtain ⟨⟨⟨⟨⟨⟨⟨⟨_,_⟩,_⟩,_⟩,hcap⟩,_⟩,_⟩,_⟩,_⟩:=hcap;simp only [Uk,ZG,Zr,rng] at hcap;refine ⟨ho.1,Za,Za,fun o hm=> ?_⟩;obtain ⟨i,hi,rfl⟩:=Z4.1 hm;have:=(ho.2 i hi).load;rw [Zj hi] at this
 simp_all [loadOk,rng]
def Fs (x:Inst) (l:List Vis) (n k:Nat):List (Bool×List Int):=((List.range k).filter fun i=>FA x l n i&&hasO l i).map fun i=>((nth x.orders i).load_c,(nth x.orders i).load)
theorem RE {x:Inst} {l:List Vis} {n k:Nat} :Fs x l n (k+1)=Fs x l n k++if (FA x l n k&&hasO l k)=true then [((nth x.orders k).load_c,(nth x.orders k).load)] else []:=by
 grind [Fs,VT]
theorem aL {x:Inst} {l:List Vis} {n:Nat} : ∀k,(Fs x l n k).length<=k:=fun k=>by
 grind [Fs]
theorem lW {x:Inst} {l:List Vis} {n k:Nat} (h:LdOk x) (hk:k<=x.orders.length): ∀p∈Fs x l n k,p.2.length=(dimsOf x.types).toNat/\ ∀m∈p.2,0<=m/\m<=1000:=fun p hp=>by
 obtain ⟨i,hi,rfl⟩:=Ww.1 hp;have hi2:=Xc.1 (Qf.1 hi).1;have:=h.load _ (Zn (show i<x.orders.length by omega))
 grind
theorem aM {x:Inst} {l:List Vis} {n:Nat} :qC (Fs x l n x.orders.length) (dimsOf x.types).toNat=Y9 x l n:=by
 unfold qC Y9
 grind [Dd,Fs,Dj,JC]
def tG (x:Inst) (l:List Vis) (n i k:Nat):Bool:=(l.take (min k n)).foldl (fun on v=>if v.order=(i:Int) then !v.drp else on) (decide ((nth x.orders i).pick.place<0))
def NG (l:List Vis) (i k:Nat):Bool:=(l.take k).any fun v=>decide (v.order=(i:Int))
theorem fO {x:Inst} {l:List Vis} {n i k:Nat} (h:k<l.length):tG x l n i (k+1)=if (nth l k).order=(i:Int) then (if k<n then !(nth l k).drp else tG x l n i k) else tG x l n i k:=by
 grind [tG,Zx,Zj]
theorem R2 {l:List Vis} {i k:Nat} (h:k<l.length):NG l i (k+1)=if (nth l k).order=(i:Int) then true else NG l i k:=by
 grind [NG,Zx,Zj]
theorem oL {x:Inst} {l:List Vis} {n i:Nat} (h:n<=l.length):tG x l n i l.length=FA x l n i:=by
 grind [tG,FA]
theorem dD {l:List Vis} {i:Nat} :NG l i l.length=hasO l i:=by grind [NG,hasO]
theorem Rh (x:Inst) (l:List Vis) (c:Bool) (n:Nat) (hx:LdOk x) (hl:l.length<=1048576) (hn:n<=l.length) :
  PT 185 [.p (Zv x),.p (.list c (l.map ZS)),.p (.int .i64 (n:Nat))] [.p (.list false ((Y9 x l n).map eI)),.p (.int .i64 0)]:=by
 have ho:=hx.ord;refine Ze [15] Tryz.func185 rfl zF ?_;simp (disch:=omega) only [Tryz.f185,go_sem,seval];refine ZI [15] [1,2,3] (fun q:Nat×List (Bool×List Int)=> [(8,.sl 1 0 q.2.length q.2.length),(9,.p (.int .i64 q.1))]) (fun q=> [Zg x,.elems 1 (q.2.map eR)]) (fun q=>q.1<=x.orders.length/\q.2=Fs x l n q.1) (fun q=>x.orders.length-q.1) (0,[]) (by simp [Fs]) (Weak.ofNil 8 1 rfl Zb (Weak.mk ?_)) ?_
 ·simp (disch:=omega) only [Zg,Zk,ZH,Xu,ZF,go_sem,seval]
 ·rintro ⟨i,o⟩ ⟨hi,hob⟩;simp only at hi hob
  have hol:o.length<=i:=by grind [aL]
  refine Yi ?_;refine cD ?_ ?_<;>intro h1<;>simp (disch:=omega) only [Sh.out h1,go_sem,seval,↓reduceIte]
  ·have hi2:i<x.orders.length:=Za
   refine Zi [1,2,3,8,9] (fun k:Nat=> [(10,.p (.bool (tG x l n i k))),(11,.p (.bool (NG l i k))),(12,.p (.int .i64 k))]) (fun _=> [Zg x,.elems 1 (o.map eR)]) (fun k=>k<=l.length) (fun k=>l.length-k) 0 Zb (Weak.mk ?_) ?_
   ·simp (disch:=omega) only [Zg,tG,NG,Nat.zero_min,Wx,Qh,List.any_nil,go_sem,seval]
   ·intro k hk;refine Yi ?_;refine cD ?_ ?_<;>intro h2<;>simp (disch:=omega) only [Sh.out h2,go_sem,seval,↓reduceIte]
    ·have hk2:k<l.length:=Za
     have s1:=fO (x:=x) (n:=n) (i:=i) hk2;have s2:=R2 (i:=i) hk2;refine ZB ?_ ?_<;>intro h3
     ·rw [if_neg h3] at s1 s2;exact ⟨k+1,Za,Za,Weak.mk (by simp (disch:=omega) only [s1,s2,go_sem,seval])⟩
     ·have h3':=Xl.1 h3;rw [if_pos h3'] at s1 s2;refine ZB ?_ ?_<;>intro h4
      ·rw [if_pos Za] at s1;exact ⟨k+1,Za,Za,Weak.mk (by simp (disch:=omega) only [s1,s2,go_sem,seval])⟩
      ·rw [if_neg Za] at s1;exact ⟨k+1,Za,Za,Weak.mk (by simp (disch:=omega) only [s1,s2,go_sem,seval])⟩
    ·have hkl:k=l.length:=Za
     subst hkl;have s3:=RE (x:=x) (l:=l) (n:=n) (k:=i);rw [oL hn,dD];refine Jd ?_ ?_<;>intro h5
     ·refine ZB ?_ ?_<;>intro h6
      ·rw [h5,h6,Bool.and_self,if_pos rfl] at s3;exact ⟨(i+1,o++ [((nth x.orders i).load_c,(nth x.orders i).load)]),⟨Za,by grind⟩,Za,Weak.mk (by simp (disch:=omega) only [ZQ,Zs,ZH,Xm,Zu,Zk,go_sem,seval])⟩
      ·rw [h5,h6,Qe,if_neg Zb,Wc] at s3;exact ⟨(i+1,o),⟨Za,by grind⟩,Za,wk⟩
     ·have h5':FA x l n i=false:=Za
      rw [h5',Vs,if_neg Zb,Wc] at s3;exact ⟨(i+1,o),⟨Za,by grind⟩,Za,wk⟩
  ·have hik:i=x.orders.length:=Za
   subst hik
   have hD:dimsOf x.types=((dimsOf x.types).toNat:Int):=by have:=hx.dim;omega
   have hok:=lW (l:=l) (n:=n) hx (ZM _);rw [<- hob] at hok;have hs:=aM (x:=x) (l:=l) (n:=n);rw [<- hob] at hs;refine Zp (Weak.fz (o:=1) (by rfl)) (Zf [] _ _ _ _ (V4 ?_));refine (bM x hx.typ).use (X8 ?_);rw [hD];refine X6 (qB o false (dimsOf x.types).toNat (by have:=hx.dim;omega) Za hok) (X8 ?_);rw [<- hs];exact we
def kB (l:List Int):PV:= .list false (l.map eI)
@[go_sem] theorem wN (l:List Int):kB l= .list false (l.map eI):=ZP rfl rfl
def UT (x:Inst) (l:List Vis):List (List Int):=(List.range (l.length+1)).map (Y9 x l)
theorem Sb (x:Inst) (r:Rte) (hx:InstOk x) (hl:r.visits.length<=1048576) (h0:Xr x r.visits=0) (hchk:PC 86 [.p (Zv x),.p (Z0 r)] (.int .i64 (Xr x r.visits))) :
  PT 139 [.p (Zv x),.p (Z0 r)] [.p (.list false ((UT x r.visits).map kB)),.p (.int .i64 0)]:=by
 have hd:=UM hx;refine Ze [12] Tryz.func139 rfl xZ ?_;simp (disch:=omega) only [Tryz.f139,go_sem,seval];refine (hchk).use (X8 ?_);simp (disch:=omega) only [h0,go_sem,seval];refine ZI [12] [2,3] (fun q:Nat×List (List Int)=> [(7,.sl 2 0 q.2.length q.2.length),(8,.p (.int .i64 q.1))]) (fun q=> [Zg x,ZK r,.elems 1 (q.2.map kB)]) (fun q=>q.1<=r.visits.length+1/\q.2=(List.range q.1).map (Y9 x r.visits)) (fun q=>r.visits.length+1-q.1) (0,[]) Zb (Weak.ofNil 7 1 rfl Zb (Weak.mk ?_)) ?_
 ·simp (disch:=omega) only [Zg,ZK,Zk,ZH,Xu,ZF,go_sem,seval]
 ·rintro ⟨k,o⟩ ⟨hk,ho⟩;simp only at hk ho
  have hol:o.length=k:=by rw [ho];simp
  refine E9 ?_;refine cD ?_ ?_<;>intro h1<;>simp (disch:=omega) only [Sh.out h1,go_sem,seval,↓reduceIte]
  ·refine X6 (Rh x r.visits r.visits_c k hd hl Za) (X8 ?_);exact ⟨(k+1,o++ [Y9 x r.visits k]),⟨Za,by grind [VT]⟩,Za,Weak.mk (by simp (disch:=omega) only [ZQ,Zs,ZH,Xm,Zu,Zk,go_sem,seval])⟩
  ·have hkl:k=r.visits.length+1:=Za
   subst hkl;refine Zp (Weak.fz (o:=2) (by rfl)) (Zf [] _ _ _ _ (V4 ?_));rw [UT,<- ho];exact we
theorem cC (x:Inst) (r:Rte) (hx:InstOk x) (hl:r.visits.length<=1048576) (hty:0<=r.typ/\r.typ<(x.types.length:Int)) (h0:Xr x r.visits=0) (hchk:PC 86 [.p (Zv x),.p (Z0 r)] (.int .i64 (Xr x r.visits))) :
  PC 88 [.p (Zv x),.p (Z0 r)] (.int .i64 (if US x (ZX x r).cap r.visits=true then 0 else 17)):=by
 have hd:=UM hx;have htl:=hd.typ
 have hti:r.typ.toNat<x.types.length:=Za
 have hcp:(nth x.types r.typ.toNat).cap.length<=3:=by
  have hcap:=hx.types.2 _ hti;unfold Az at hcap;obtain ⟨⟨⟨⟨⟨⟨⟨⟨_,_⟩,_⟩,_⟩,hcap⟩,_⟩,_⟩,_⟩,_⟩:=hcap;simp only [Uk,ZG,Zr,rng] at hcap;omega
 have hll:(UT x r.visits).length=r.visits.length+1:=by simp [UT]
 have hln: ∀k,k<r.visits.length+1->nth (UT x r.visits) k=Y9 x r.visits k:=fun k hk=>by
  grind [Zj,UT]
 have hal: ∀k,(Y9 x r.visits k).length<=3:=fun k=>by rw [DR];have:=hd.dim;omega
 have cl:=Sb x r hx hl h0 hchk;unfold ZX
 generalize hL:UT x r.visits=L at *
 refine Zc Tryz.func88 rfl Zh0 ?_
 have e1: ¬r.typ<0:=Za
 have e2: ¬(x.types.length:Int)<=r.typ:=Za
 simp (disch:=omega) only [Tryz.f88,e1,e2,go_sem,seval];refine X6 cl (X8 ?_);refine Zi [2,3,5] (fun k:Nat=> [(7,.p (.int .i64 k))]) (fun _=> [Zg x,ZK r]) (fun k=>k<=r.visits.length+1/\ ∀j,j<k->UK (Y9 x r.visits j) (nth x.types r.typ.toNat).cap=true) (fun k=>r.visits.length+1-k) 0 Zb (Weak.mk ?_) ?_
 ·simp (disch:=omega) only [Zg,ZK,go_sem,seval]
 ·rintro k ⟨hk,hno⟩;simp (disch:=omega) only [Zg,ZK,hll,go_sem,seval];refine cD ?_ ?_<;>intro h1<;>simp (disch:=omega) only [Sh.out h1,go_sem,seval,↓reduceIte]
  ·have hk2:k<r.visits.length+1:=Za
   have hk3:k<L.length:=Za
   have hk4:=hal k;refine Z6 ?_;simp (disch:=omega) only [hln k hk2,go_sem,seval];refine Zq (cB (Y9 x r.visits k) (nth x.types r.typ.toNat).cap false (nth x.types r.typ.toNat).cap_c Za Za) (X8 ?_);refine ZB ?_ ?_<;>intro h2
   ·have h2':UK (Y9 x r.visits k) (nth x.types r.typ.toNat).cap=false:=by grind
    have: ¬US x (nth x.types r.typ.toNat).cap r.visits=true:=fun h=>by
     grind [US]
    grind
   ·exact ⟨k+1,⟨Za,Zm.2 ⟨hno,by grind⟩⟩,Za,wk⟩
  ·have:US x (nth x.types r.typ.toNat).cap r.visits=true:=by
    grind [US]
   grind
def I7 (j:Nat):Int:=if j=63 then-9223372036854775808 else ((pw j:Nat):Int)
theorem OX {j:Nat} (h:j<63):I7 j=((pw j:Nat):Int):=by rw [I7,if_neg Za]
theorem Zb0 {j:Nat} (h:j<=62):pw j<=4611686018427387904:=by have:=QN h;rwa [GL] at this
theorem I8 {j:Nat} (h:j<=63):0<I7 j↔j<63:=by
 grind [I7,N9]
theorem tR {S q:Nat} (hS:S<9223372036854775808) (h:q<=S):IntKind.i64.wrap (q:Int)=(q:Int):=by rw [IntKind.wrap_i64];omega
theorem Zb2 {P:Program} {t:TypeId} {S j:Nat} (hS:S<9223372036854775808):XX P .quo t (.p (.int .i64 (S:Int))) (.p (.int .i64 ((pw j:Nat):Int)))=some (.int .i64 ((S / pw j:Nat):Int)):=by
 have hp:=N9 j;rw [TO Za]
 have e:(S:Int).tdiv ((pw j:Nat):Int)=((S / pw j:Nat):Int):=by
  rfl
 have hle:=Nat.div_le_self S (pw j);rw [e,tR hS hle]
theorem pL {P:Program} {t:TypeId} {S:Nat} :XX P .rem t (.p (.int .i64 (S:Int))) (.p (.int .i64 2))=some (.int .i64 ((S%2:Nat):Int)):=by
 rfl
theorem ZiP {S j:Nat} (hS:S<9223372036854775808):(IntKind.i64.wrap ((S:Int) / ((pw j:Nat):Int))).tmod 2=((S / pw j%2:Nat):Int):=by
 have hle:=Nat.div_le_self S (pw j)
 grind [tR]
theorem eW {P:Program} {t:TypeId} {j:Nat} (h:j<63):XX P .mul t (.p (.int .i64 ((pw j:Nat):Int))) (.p (.int .i64 2))=some (.int .i64 (I7 (j+1))):=by
 grind [TM,I7,Zb0,pw,IntKind.wrap_i64]
theorem TR (t:Typ) (s:Int) (h1:t.skills<9223372036854775808) (h2:s<9223372036854775808):PC 87 [.p (Y5 t),.p (.int .i64 s)] (.bool (WA t s)):=by
 refine Zc Tryz.func87 rfl ZhZ ?_;simp (disch:=omega) only [Tryz.f87,go_sem,seval];refine gF ?_ ?_<;>intro c1<;>simp (disch:=omega) only [Sh.out c1,go_sem,seval,↓reduceIte]
 ·grind [WA]
 ·refine cD ?_ ?_<;>intro c2<;>simp (disch:=omega) only [Sh.out c2,go_sem,seval]
  ·grind [WA]
  ·obtain ⟨M,hM⟩: ∃M:Nat,t.skills=(M:Int):=⟨t.skills.toNat,Za⟩;obtain ⟨S,rfl⟩: ∃S:Nat,s=(S:Int):=⟨s.toNat,Za⟩
   have hMl:M<9223372036854775808:=Za
   have hSl:S<9223372036854775808:=Za
   have hab: ∀b:Bool,((List.range 63).all fun i=> !S.testBit i||M.testBit i)=b->WA t (S:Int)=b:=fun b hb=>by
    simp_all [WA]
   refine Zi [1,2] (fun j:Nat=> [(5,.p (.int .i64 (I7 j)))]) (fun _=> [X2 t]) (fun j=>j<=63/\ ∀i,i<j->(!S.testBit i||M.testBit i)=true) (fun j=>63-j) 0 Zb (Weak.mk ?_) ?_
   ·simp (disch:=omega) only [X2,hM,show I7 0=1 from rfl,go_sem,seval]
   ·rintro j ⟨hj,hno⟩;simp (disch:=omega) only [X2,hM,go_sem,seval];refine cD ?_ ?_<;>intro c3<;>simp (disch:=omega) only [Sh.out c3,go_sem,seval,↓reduceIte]
    ·have hj2:j<63:=(I8 hj).1 c3;simp (disch:=omega) only [OX hj2,ZiP hSl,Hs,go_sem,seval];refine gT ?_ ?_<;>intro c4<;>simp (disch:=omega) only [Sh.out c4,OX hj2,Zb2 hMl,ZiP hSl,pL,eW hj2,Hs,Hr,go_sem,seval]
     ·refine cD ?_ ?_<;>intro c5<;>simp (disch:=omega) only [Sh.out c5,eW hj2,go_sem,seval]
      ·grind
      ·exact ⟨j+1,⟨Za,Zm.2 ⟨hno,by grind⟩⟩,Za,Weak.mk (by simp (disch:=omega) only [hM,go_sem,seval])⟩
     ·exact ⟨j+1,⟨Za,Zm.2 ⟨hno,by grind⟩⟩,Za,Weak.mk (by simp (disch:=omega) only [hM,go_sem,seval])⟩
    ·have hj63:j=63:=by
      rcases W7 j 63 with h | h
      ·simp_all [I8]
      ·omega
     simp_all
theorem Nk (l:List Vis) (c:Bool) (n:Nat) (hn:n<l.length) (hl:l.length<=1048576):PC 144 [.p (.list c (l.map ZS)),.p (.int .i64 (n:Nat))] (.bool (Uo l n)):=by
 refine Zc Tryz.func144 rfl yE ?_;simp (disch:=omega) only [Tryz.f144,go_sem,seval];refine Zi [0,1] (fun k:Nat=> [(5,.p (.int .i64 k))]) (fun _=> []) (fun k=>k<=n/\ ∀j,j<k->(nth l j).order≠(nth l n).order) (fun k=>n-k) 0 Zb (Weak.mk ?_) ?_
 ·simp (disch:=omega) only [go_sem,seval,↓reduceIte]
 ·rintro k ⟨hk,hno⟩;refine X8 ?_;refine cD ?_ ?_<;>intro h1<;>simp (disch:=omega) only [Sh.out h1,go_sem,seval,↓reduceIte]
  ·have hk2:k<n:=Za
   have hk3:k<l.length:=Za
   refine Z6 (X8 ?_);refine cD ?_ ?_<;>intro h2<;>simp (disch:=omega) only [Sh.out h2,go_sem,seval,↓reduceIte]
   ·grind [Uo,J7]
   ·exact ⟨k+1,⟨Za,Zm.2 ⟨hno,h2⟩⟩,Za,wk⟩
  ·have hkn:k=n:=Za
   subst hkn
   have:Uo l k=true:=by
    unfold Uo;rw [YH,VU];intro v hv;obtain ⟨j,j1,j2,rfl⟩:=Kt hv
    grind
   rw [this]
def BT (c m o w:Int):AM.Obj:= .cells [.p (.int .i64 c),.p (.int .i64 m),.p (.int .i64 o),.p (.int .i64 w)]
theorem A4 {x:Inst} {l:List Vis} {t:Int} : ∀n:Nat,(0<=(chgF x l t n).1/\(chgF x l t n).1<=n)/\(0<=(chgF x l t n).2/\(chgF x l t n).2<=n)
 | 0=>by simp [chgF]
 | n+1=>by
  have ih:=A4 (x:=x) (l:=l) (t:=t) n
  grind [chgF]
theorem SX (x:Inst) (r:Rte) (s:She) (hty:0<=r.typ/\r.typ<(x.types.length:Int)) (ho:x.orders.length<=1048576) (ht:x.types.length<=1048576) (hl:r.visits.length<=1048576) (hv:Inr x r.visits)
  (hc:0<=(ZX x r).fixed/\(ZX x r).fixed<=100000/\0<=(ZX x r).perMile/\(ZX x r).perMile<=100/\0<=(ZX x r).perTick/\(ZX x r).perTick<=100) (ho2:0<=(ZX x r).opn/\(ZX x r).opn<=4096)
  (hf: -4096<=s.fin/\s.fin<=8192) (hm:0<=s.miles/\s.miles<=1000000) :
  PC 90 [.p (Zv x),.p (Z0 r),.p (Bc s)] (De (Mt x r s)):=by
 have hti:r.typ.toNat<x.types.length:=Za
 unfold Mt;have htd:nth x.types r.typ.toNat=ZX x r:=rfl
 generalize ZX x r=t at *
 have e1: ¬r.typ<0:=Za
 have e2: ¬(x.types.length:Int)<=r.typ:=Za
 have p1:0<=t.perMile*s.miles/\t.perMile*s.miles<=100*1000000:=⟨V7 Za Za,Qg Za Za Za Za⟩
 have hW: -8192<=s.fin-t.opn/\s.fin-t.opn<=8192:=Za
 have p2: -819200<=t.perTick*(s.fin-t.opn)/\t.perTick*(s.fin-t.opn)<=819200:=by
  generalize s.fin-t.opn=w at hW;have a1:=Cq hW.2 (show 0<=t.perTick by omega);have a2:=Cq hW.1 (show 0<=t.perTick by omega);omega
 have p3: -128<=(s.fin-t.opn).tdiv 64/\(s.fin-t.opn).tdiv 64<=128:=by
  grind
 have p4:0<=(s.fin-t.opn).tdiv 64*(s.fin-t.opn).tdiv 64/\(s.fin-t.opn).tdiv 64*(s.fin-t.opn).tdiv 64<=16384:=by
  generalize (s.fin-t.opn).tdiv 64=q at p3;refine ⟨?_,?_⟩
  ·rcases K1 0 q with h | h
   ·exact V7 h h
   ·exact Int.mul_nonneg_of_nonpos_of_nonpos h h
  ·rcases K1 0 q with h | h
   ·have:=Qg p3.2 p3.2 h Za;omega
   ·have h2:0<= -q:=Za
    have:=Qg (show-q<=128 by omega) (show-q<=128 by omega) h2 Za
    grind
 refine Zc Tryz.func90 rfl Zh1 ?_;simp (disch:=omega) only [Tryz.f90,e1,e2,htd,go_sem,seval];refine Zi [3,4,6,9] (fun k:Nat=> [(10,.p (.int .i64 k))]) (fun k=> [Zg x,ZK r,.cells [.p (.bool s.rest),.p (.int .i64 s.dep),.p (.list s.times_c (s.times.map eTim)),.p (.int .i64 s.fin),.p (.int .i64 s.miles)],BT 0 0 0 0,X2 t,BT (t.fixed+t.perMile*s.miles+t.perTick*(s.fin-t.opn)) (chgF x r.visits r.typ k).1 (chgF x r.visits r.typ k).2 ((s.fin-t.opn).tdiv 64*(s.fin-t.opn).tdiv 64)]) (fun k=>k<=r.visits.length) (fun k=>r.visits.length-k) 0 Zb (Weak.mk ?_) ?_
 ·simp (disch:=omega) only [Zg,ZK,X2,BT,chgF,go_sem,seval]
 ·intro k hk;have hch:=A4 (x:=x) (l:=r.visits) (t:=r.typ) k;simp (disch:=omega) only [Zg,ZK,X2,BT,go_sem,seval];refine cD ?_ ?_<;>intro h1<;>simp (disch:=omega) only [Sh.out h1,go_sem,seval,↓reduceIte]
  ·have hk2:k<r.visits.length:=Za
   obtain ⟨v1,v2⟩:=hv _ (Zn hk2)
   have e3: ¬(nth r.visits k).order<0:=Za
   have e4: ¬(x.orders.length:Int)<=(nth r.visits k).order:=Za
   have v3:(nth r.visits k).order.toNat<x.orders.length:=Za
   simp (disch:=omega) only [e3,e4,go_sem,seval];refine (Nk r.visits r.visits_c k hk2 hl).use (X8 ?_);have hcs:chgF x r.visits r.typ (k+1)=_:=chgF.eq_2 x r.visits r.typ k;refine ZB ?_ ?_<;>intro h2
   ·have h2': ¬Uo r.visits k=true:=by grind
    exact ⟨k+1,Za,Za,Weak.mk (by simp (disch:=omega) only [hcs,if_neg h2',go_sem,seval])⟩
   ·have h2':Uo r.visits k=true:=by grind
    refine Z6 (X8 ?_);refine gT ?_ ?_<;>intro h3<;>simp (disch:=omega) only [Sh.out h3,go_sem,seval,↓reduceIte]
    ·refine cD ?_ ?_<;>intro h4<;>simp (disch:=omega) only [Sh.out h4,go_sem,seval,↓reduceIte]
     ·have hn:Xj (nth x.orders (nth r.visits k).order.toNat).now r.typ=true:=by simp [Xj,h3,h4]
      refine Z6 (X8 ?_);refine Jd ?_ ?_<;>intro h5
      ·refine ZB ?_ ?_<;>intro h6
       ·have hl2:Xj (nth x.orders (nth r.visits k).order.toNat).last r.typ=true:=by simp [Xj,h5,h6]
        exact ⟨k+1,Za,Za,Weak.mk (by simp (disch:=omega) only [hcs,if_pos h2',hn,hl2,go_sem,seval,↓reduceIte])⟩
       ·have hl2:Xj (nth x.orders (nth r.visits k).order.toNat).last r.typ=false:=by simp_all [Xj]
        exact ⟨k+1,Za,Za,Weak.mk (by simp (disch:=omega) only [hcs,if_pos h2',hn,hl2,VX,Wu,go_sem,seval,↓reduceIte])⟩
      ·have hl2:Xj (nth x.orders (nth r.visits k).order.toNat).last r.typ=false:=by simp_all [Xj]
       exact ⟨k+1,Za,Za,Weak.mk (by simp (disch:=omega) only [hcs,if_pos h2',hn,hl2,VX,Wu,go_sem,seval,↓reduceIte])⟩
     ·have hn:Xj (nth x.orders (nth r.visits k).order.toNat).now r.typ=false:=by simp_all [Xj]
      refine Z6 (X8 ?_);refine Jd ?_ ?_<;>intro h5
      ·refine ZB ?_ ?_<;>intro h6
       ·have hl2:Xj (nth x.orders (nth r.visits k).order.toNat).last r.typ=true:=by simp [Xj,h5,h6]
        exact ⟨k+1,Za,Za,Weak.mk (by simp (disch:=omega) only [hcs,if_pos h2',hn,hl2,VX,Wu,go_sem,seval,↓reduceIte])⟩
       ·have hl2:Xj (nth x.orders (nth r.visits k).order.toNat).last r.typ=false:=by grind
        exact ⟨k+1,Za,Za,Weak.mk (by simp (disch:=omega) only [hcs,if_pos h2',hn,hl2,VX,Wu,go_sem,seval,↓reduceIte])⟩
      ·have hl2:Xj (nth x.orders (nth r.visits k).order.toNat).last r.typ=false:=by simp_all [Xj]
       exact ⟨k+1,Za,Za,Weak.mk (by simp (disch:=omega) only [hcs,if_pos h2',hn,hl2,VX,Wu,go_sem,seval,↓reduceIte])⟩
    ·have hn:Xj (nth x.orders (nth r.visits k).order.toNat).now r.typ=false:=by simp_all [Xj]
     refine Z6 (X8 ?_);refine Jd ?_ ?_<;>intro h5
     ·refine ZB ?_ ?_<;>intro h6
      ·have hl2:Xj (nth x.orders (nth r.visits k).order.toNat).last r.typ=true:=by simp [Xj,h5,h6]
       exact ⟨k+1,Za,Za,Weak.mk (by simp (disch:=omega) only [hcs,if_pos h2',hn,hl2,VX,Wu,go_sem,seval,↓reduceIte])⟩
      ·have hl2:Xj (nth x.orders (nth r.visits k).order.toNat).last r.typ=false:=by simp_all [Xj]
       exact ⟨k+1,Za,Za,Weak.mk (by simp (disch:=omega) only [hcs,if_pos h2',hn,hl2,VX,Wu,go_sem,seval,↓reduceIte])⟩
     ·have hl2:Xj (nth x.orders (nth r.visits k).order.toNat).last r.typ=false:=by grind
      exact ⟨k+1,Za,Za,Weak.mk (by simp (disch:=omega) only [hcs,if_pos h2',hn,hl2,VX,Wu,go_sem,seval,↓reduceIte])⟩
  grind
theorem SqOk.len {x:Inst} {l:List Vis} (h:SqOk x l) (hn:x.orders.length<=10):l.length<=20:=by
 have h1:=List.Nodup.length_le_of_subset (l₁ :=l) (l₂ :=(List.range 10).flatMap fun i:Nat=> [(⟨(i:Int),false⟩:Vis),⟨(i:Int),true⟩]) h.nd (fun v hv=>by
  obtain ⟨v1,v2⟩:=h.inr v hv;rw [Uq];refine ⟨v.order.toNat,Xc.2 Za,?_⟩;obtain ⟨o,d⟩:=v
  have e:((o.toNat:Nat):Int)=o:=by grind
  simp_all)
 have h2:((List.range 10).flatMap fun i:Nat=> [(⟨(i:Int),false⟩:Vis),⟨(i:Int),true⟩]).length=20:=rfl;omega
theorem SqOk.vis {x:Inst} {l:List Vis} (h:SqOk x l) {v:Vis} (hv:v∈l):Ky x v=true:=by
 obtain ⟨v1,v2⟩:=h.inr v hv;obtain ⟨i,hi⟩: ∃i:Nat,v.order=(i:Int):=⟨v.order.toNat,Za⟩;have ho:=h.own (i:=i) ⟨v,hv,hi⟩
 have hpl:0<=(stopV x v).place:=by
  unfold stopV;rw [hi,XU]
  cases hd:v.drp with
  | true=>exact ho.isD (by rw [<- hi,<- hd];exact hv)
  | false=>exact ho.isP (by rw [<- hi,<- hd];exact hv)
 simp [Ky,Pj,v1,v2,hpl]
theorem pD {x:Inst} {r:Rte} (h:SqOk x r.visits) (hn:x.orders.length<=10) (ht:0<=r.typ/\r.typ<(x.types.length:Int)):VN x r=(decide (0<=r.start)&&decide (r.start<=4096)):=by
 have h1:r.visits.all (Ky x)=true:=Zw.2 fun v hv=>h.vis hv;have h2:=h.len hn
 grind [VN]
theorem oD {n:Net} (h:netOk n):netR n/\ ∀a∈n.arcs,0<=a.miles/\a.miles<=10000:=by
 obtain ⟨⟨⟨h1,_⟩,h2⟩,h3⟩:=h
 have ha: ∀a∈n.arcs,kV a/\0<=a.miles/\a.miles<=10000:=fun a hm=>by
  obtain ⟨i,hi,rfl⟩:=Z4.1 hm;have:=h3 i hi;unfold IT at this;rw [Zj hi] at this;obtain ⟨⟨⟨⟨⟨_,g1⟩,_⟩,g2⟩,g3⟩,g4⟩:=this;refine ⟨⟨g2,g3,fun p hp=> ?_⟩,g1.2.2.1,g1.2.2.2.1⟩;obtain ⟨j,hj,rfl⟩:=Z4.1 hp
  simp_all [Kq,Zj,It,rng]
 exact ⟨⟨Za,Za,fun a hm=>(ha a hm).1⟩,fun a hm=>(ha a hm).2⟩
theorem Kw {x:Inst} (hx:InstOk x) {i:Nat} (hi:i<x.types.length):(0<=(nth x.types i).opn/\(nth x.types i).opn<=(nth x.types i).cls/\(nth x.types i).cls<=4096)/\(1<=(nth x.types i).drive/\(nth x.types i).drive<=4096)/\(0<=(nth x.types i).rest/\(nth x.types i).rest<=4096) /\
  (0<=(nth x.types i).fixed/\(nth x.types i).fixed<=100000/\0<=(nth x.types i).perMile/\(nth x.types i).perMile<=100/\0<=(nth x.types i).perTick/\(nth x.types i).perTick<=100)/\(0<=(nth x.types i).skills/\(nth x.types i).skills<=1073741823):=by
 have ht:=hx.types.2 i hi
 simp_all [Az,rng]
theorem Ku {x:Inst} {r:Rte} (hx:InstOk x) (ht:0<=r.typ/\r.typ<(x.types.length:Int)) (h:SqOk x r.visits):TrpOk x (ZX x r) (Xw x r.visits):=by
 have hti:r.typ.toNat<x.types.length:=Za
 obtain ⟨t1,t2,t3,_⟩:=Kw hx hti;obtain ⟨n1,n2⟩:=oD hx.net;refine ⟨n1,n2,t1,t2,t3,fun s hs=> ?_,by rw [Yg];exact h.len hx.orders.1⟩;obtain ⟨v,hv,rfl⟩:=Ww.1 hs;obtain ⟨v1,v2⟩:=h.inr v hv
 have hi:v.order.toNat<x.orders.length:=Za
 have ho:=hx.orders.2 _ hi;have hvis:=h.vis hv;have hp:=ho.pstp;have hd:=ho.dstp;simp only [stpOk,Zr] at hp hd;simp only [Ky,ZG,Zr] at hvis;have h3:=hvis.2;unfold stopV at h3 ⊢
 grind
theorem Mn {x t sp} (h:TrpOk x t sp): ∀(bs:List Bool) (k:Nat) (L:Lab),k+bs.length=sp.length+1->LabR k L->(XK x t sp k L bs).2=0->LabR (sp.length+1) (XK x t sp k L bs).1/\(bs≠ []->(XK x t sp k L bs).1.she.fin=(XK x t sp k L bs).1.ready)
 | [],k,L,hk,hl,h0=>by
  simp at hk;subst hk;exact ⟨hl,fun h=>absurd rfl h⟩
 | b::bs,k,L,hk,hl,h0=>by
  simp at hk;rw [XK] at h0 ⊢
  split at h0
  ·rename_i c;rw [if_pos c];obtain ⟨h1,h2⟩:=Mn h bs (k+1) _ Za (H4 h Za hl c) h0;refine ⟨h1,fun _=> ?_⟩
   cases bs with
   | nil =>
    simp at hk;subst hk;exact LZ (x:=x) (t:=t) (sp:=sp) (y:=L) (b:=b) (by rw [XP,if_pos c];rfl)
   | cons b2 bs=>grind
  omega
theorem D4 {x t sp} {st:Int} {r:List Bool} (h:TrpOk x t sp) (hs:0<=st/\st<=4096) (hr:r.length<=sp.length+1) (h0:(Ui x t sp st r).2=0):(0<=(Ui x t sp st r).1.fin/\(Ui x t sp st r).1.fin<=8192)/\(0<=(Ui x t sp st r).1.miles/\(Ui x t sp st r).1.miles<=210000):=by
 have hL0:LabR 0 (XB t st):=⟨by have:=h.opn;grind [XB],by simp [XB],by simp [XB,zShe]⟩;have hl:=h.len
 have key: ∀bs∈YY r (sp.length+1),(XK x t sp 0 (XB t st) bs).2=0->(0<=(XK x t sp 0 (XB t st) bs).1.she.fin/\(XK x t sp 0 (XB t st) bs).1.she.fin<=8192)/\(0<=(XK x t sp 0 (XB t st) bs).1.she.miles/\(XK x t sp 0 (XB t st) bs).1.she.miles<=210000):=fun bs hbs he=>by
  obtain ⟨q,hq,rfl⟩:=Ww.1 hbs;have hql:=bestF_len.fromB_len _ _ hq;simp at hql
  have hne:r++q≠ []:=fun e=>by
   simp_all
  obtain ⟨g1,g2⟩:=Mn h (r++q) 0 _ (by simp;omega) hL0 he;rw [g2 hne];have:=g1.rdy;have:=g1.mil;omega
 unfold Ui at h0 ⊢
 cases hf:Vh Wa none ((YY r (sp.length+1)).filterMap (Vg (XP x t sp) 0 (XB t st))) with
 | some L =>
  simp only;have:=bestF_len.fmL_mem _ _ hf
  grind [VO]
 | none =>
  grind [zShe]
theorem Rx (x:Inst) (r:Rte) (ho:x.orders.length<=1048576) (ht:x.types.length<=1048576) (hl:r.visits.length<=1048576) (hbad:VN x r=false\/r.visits.length+1<r.rests.length) :
  PT 89 [.p (Zv x),.p (Z0 r)] [.p (Bc zShe),.p (.int .i64 2)]:=by
 refine Ze [] Tryz.func89 rfl sZ ?_;simp (disch:=omega) only [Tryz.f89,go_sem,seval];refine (EN x r ho ht hl).use (X8 ?_);refine gF ?_ ?_<;>intro h1<;>simp (disch:=omega) only [Sh.out h1,go_sem,seval,↓reduceIte]
 ·exact we (by simp (disch:=omega) only [zShe,Zk,go_sem,seval])
 ·have h2:r.visits.length+1<r.rests.length:=hbad.resolve_left (by grind);refine cD ?_ ?_<;>intro h3<;>simp (disch:=omega) only [Sh.out h3,go_sem,seval,↓reduceIte]
  ·exact we (by simp (disch:=omega) only [zShe,Zk,go_sem,seval])
  ·omega
theorem mE (x:Inst) (r:Rte) (hx:InstOk x) (hl:r.visits.length<=1048576):PC 86 [.p (Zv x),.p (Z0 r)] (.int .i64 (Xr x r.visits)):=by
 have hf:=WV hx;have hr:=hx.rules;obtain ⟨h1,h2⟩:=Qd.1 hr
 have ha:x.apart.length<=1048576:=by
  have h3:=(Qd.1 h1).1
  grind [MV]
 have hb:x.before.length<=1048576:=by
  have h3:=(Qd.1 h2).1
  grind [MV]
 have:=Oc x r (by have:=hf.len;omega) hl ha hb hf.plc
 grind [pK]
def Au (x:Inst) (r:Rte):V:= .tup [.p (Bc (XG x r)),.p (De (QB x r)),.p (.int .i64 (Xb x r))]
theorem Ym {x:Inst} {r:Rte} {e:Int} (h:Xb x r=e) (h0:e≠0):Au x r= .tup [.p (Bc zShe),.p (De zSco),.p (.int .i64 e)]:=by
 simp_all [Au,XG,QB]
theorem Jg (x:Inst) (r:Rte) (hx:InstOk x) (hl:r.visits.length<=1048576) (hrl:r.rests.length<=1048576):ACalls Tryz.prog 48 [.p (Zv x),.p (Z0 r)] [] fun y H'=>y=Au x r/\H'= []:=by
 have hld:=UM hx;have htl:=hld.typ;have hol:=hld.ord;have chk:=mE x r hx hl
 have htb:x.types.length<=6:=by have:=hx.types.1;simp only [rng,Zr] at this;omega
 refine Ze [] Tryz.func48 rfl ZhC ?_;simp (disch:=omega) only [Tryz.f48,go_sem,seval];refine gF ?_ ?_<;>intro h1<;>simp (disch:=omega) only [Sh.out h1,go_sem,seval,↓reduceIte]
 ·have e:X9 x r=2:=by rw [X9,if_pos Za]
  rw [Ym (e:=2) (by rw [Xb,e];rfl) Za];exact we (by simp (disch:=omega) only [zShe,zSco,Zk,go_sem,seval])
 ·refine cD ?_ ?_<;>intro h2<;>simp (disch:=omega) only [Sh.out h2,go_sem,seval,↓reduceIte]
  ·have e:X9 x r=2:=by simp_all [X9]
   rw [Ym (e:=2) (by rw [Xb,e];rfl) Za];exact we (by simp (disch:=omega) only [zShe,zSco,Zk,go_sem,seval])
  ·have hty:0<=r.typ/\r.typ<(x.types.length:Int):=Za
   have hti:r.typ.toNat<x.types.length:=Za
   refine (chk).use (X8 ?_);refine cD ?_ ?_<;>intro h3<;>simp (disch:=omega) only [Sh.out h3,go_sem,seval,↓reduceIte]
   ·have e:X9 x r=Xr x r.visits:=by simp_all [X9]
    rw [Ym (e:=Xr x r.visits) (by simp_all [Xb]) h3];exact we (by simp (disch:=omega) only [zShe,zSco,Zk,go_sem,seval])
   ·have h3':=Xl.1 h3;have hsq:=VD h3'
    have hvn:0<r.visits.length:=by
     have:=hsq.ne
     grind
    have hok:=Ku hx hty hsq;have hnum:=Kw hx hti
    have hr0:X9 x r=if (r.visits.any fun v=> !WA (ZX x r) (nth x.orders v.order.toNat).skills)=true then 18 else if US x (ZX x r).cap r.visits=false then 17 else if ¬(0<=r.start/\r.start<=4096/\r.rests.length<=r.visits.length+1) then 2 else 0:=by
     rw [X9,if_neg (fun h=>h hty),if_neg h3]
    have htyp:nth x.types r.typ.toNat=ZX x r:=rfl;rw [htyp] at hnum;have hf17:=cC x r hx hl hty h3' chk;have hposs:=pD hsq hol hty
    have hsk: ∀k,k<r.visits.length->(nth r.visits k).order.toNat<x.orders.length/\0<=(nth x.orders (nth r.visits k).order.toNat).skills/\(nth x.orders (nth r.visits k).order.toNat).skills<=1073741823:=fun k hk=>by
     obtain ⟨v1,v2⟩:=hsq.inr _ (Zn hk)
     have hi:(nth r.visits k).order.toNat<x.orders.length:=Za
     exact ⟨hi,(hx.orders.2 _ hi).skills⟩
    refine Zi [2,3,4,5] (fun k:Nat=> [(8,.p (.int .i64 k))]) (fun _=> [Zg x,ZK r,.cells [.p (.bool false),.p (.int .i64 0),.p (.list true []),.p (.int .i64 0),.p (.int .i64 0)],BT 0 0 0 0])
     (fun k=>k<=r.visits.length/\ ∀j,j<k->WA (ZX x r) (nth x.orders (nth r.visits j).order.toNat).skills=true) (fun k=>r.visits.length-k) 0 Zb (Weak.mk ?_) ?_
    ·simp (disch:=omega) only [Zg,ZK,BT,go_sem,seval]
    ·rintro k ⟨hk,hno⟩;simp (disch:=omega) only [Zg,ZK,BT,go_sem,seval];refine cD ?_ ?_<;>intro h4<;>simp (disch:=omega) only [Sh.out h4,go_sem,seval,↓reduceIte]
     ·have hk2:k<r.visits.length:=Za
      obtain ⟨s1,s2,s3⟩:=hsk k hk2;obtain ⟨v1,v2⟩:=hsq.inr _ (Zn hk2);refine Z6 ?_;simp (disch:=omega) only [htyp,go_sem,seval];refine Zq (TR (ZX x r) (nth x.orders (nth r.visits k).order.toNat).skills Za Za) (X8 ?_);refine ZB ?_ ?_<;>intro h5
      ·have e:X9 x r=18:=by
        rw [hr0,if_pos]
        grind [Zn]
       rw [Ym (e:=18) (by rw [Xb,e];rfl) Za];exact we (by simp (disch:=omega) only [zShe,zSco,Zk,go_sem,seval])
      ·exact ⟨k+1,⟨Za,Zm.2 ⟨hno,by grind⟩⟩,Za,wk⟩
     ·have hkl:k=r.visits.length:=Za
      subst hkl
      have YB: ¬(r.visits.any fun v=> !WA (ZX x r) (nth x.orders v.order.toNat).skills)=true:=fun h=>by
       obtain ⟨v,hv,hb⟩:=Vr.1 h;obtain ⟨j,hj,rfl⟩:=Z4.1 hv
       grind [Zj]
      rw [if_neg YB] at hr0;refine (hf17).use (X8 ?_)
      cases hlb:US x (ZX x r).cap r.visits with
      | false =>
       have e:X9 x r=17:=by grind
       simp only [Wu,Yy];refine X8 ?_;rw [Ym (e:=17) (by rw [Xb,e];rfl) Za];exact we (by simp (disch:=omega) only [zShe,zSco,Zk,go_sem,seval])
      | true =>
       rw [hlb,if_neg Zb] at hr0;simp only [if_true];refine X8 ?_
       by_cases h6:0<=r.start/\r.start<=4096/\r.rests.length<=r.visits.length+1
       ·have e:X9 x r=0:=Za
        have hp:VN x r=true:=by grind
        have ee:Xb x r=(XF x r).2:=by rw [Xb,if_pos e]
        have cb:=aI x r hok Za htl hvn hp h6.2.2;have hbr:=D4 hok ⟨h6.1,h6.2.1⟩ (by rw [Yg];exact h6.2.2);have hbr:(XF x r).2=0->_:=hbr
        change (XF x r).2=0->(0<=(XF x r).1.fin/\(XF x r).1.fin<=8192)/\(0<=(XF x r).1.miles/\(XF x r).1.miles<=210000) at hbr
        have es:XG x r=if (XF x r).2=0 then (XF x r).1 else zShe:=by rw [XG,ee]
        have ep:QB x r=if (XF x r).2=0 then Mt x r (XF x r).1 else zSco:=by rw [QB,ee]
        unfold Au;rw [ee,es,ep];clear ee es ep
        generalize XF x r=q at *
        obtain ⟨sh,eb⟩:=q;simp only at cb hbr ⊢;refine X6 cb (X8 ?_);refine cD ?_ ?_<;>intro h7<;>simp (disch:=omega) only [Sh.out h7,go_sem,seval,↓reduceIte]
        ·exact we (by simp (disch:=omega) only [zShe,zSco,Zk,go_sem,seval])
        ·have h7':=Xl.1 h7
         try rw [if_pos h7',if_pos h7']
         subst h7';obtain ⟨g1,g2⟩:=hbr rfl;refine Z3 5 mixed Zd Zd (X8 ?_);refine Zq (SX x r sh hty Za htl hl hsq.inr hnum.2.2.2.1 Za Za Za) (X8 ?_);exact we
       ·have e:X9 x r=2:=Za
        rw [Ym (e:=2) (by rw [Xb,e];rfl) Za];refine X6 (Rx x r Za htl hl ?_) ?_
        ·grind
        ·refine X8 ?_;exact we (by simp (disch:=omega) only [zShe,zSco,Zk,go_sem,seval])
theorem Tm (x:Inst) (r:Rte) (hx:InstOk x) (hl:r.visits.length<=1048576) (hrl:r.rests.length<=1048576):PC 46 [.p (Zv x),.p (Z0 r)] (.int .i64 (Xb x r)):=by
 have ce:=Jg x r hx hl hrl;refine Zc Tryz.func46 rfl ZhA ?_;simp (disch:=omega) only [Tryz.f46,go_sem,seval];unfold Au at ce;refine G2 ce ?_;simp (disch:=omega) only [go_sem,seval,↓reduceIte]
theorem Zb9 {p q:Pt} {t:Int} (h1:p.t<=t) (h2:t<q.t) (hp:p.t<=p.a) (hq:q.t<=q.a):t<=FJ p q t:=by
 unfold FJ
 have hw:0<q.t-p.t:=Za
 have key:(t-p.a)*(q.t-p.t)<=(t-p.t)*(q.a-p.a)+q.t-p.t-1:=by
  have e:(t-p.t)*(q.a-p.a)-(t-p.a)*(q.t-p.t)=(t-p.t)*(q.a-q.t)+(p.a-p.t)*(q.t-t):=by
   grind
  have h3:0<=(t-p.t)*(q.a-q.t):=V7 Za Za;have h4:0<=(p.a-p.t)*(q.t-t):=V7 Za Za;omega
 have:=Int.le_ediv_of_mul_le hw key;omega
theorem kY {l:List Pt} {t:Int} (hl:WG l):t<=Q5 l t:=by
 obtain ⟨⟨hl1,hl2⟩,hpt⟩:=hl;unfold Q5
 split
 ·rename_i i hi;have hm:=YN hi;have hs:=Jy hi;simp at hm;simp only [Qp,ZG,Zr] at hs;obtain ⟨⟨p1,p2,p3,p4⟩,_⟩:=hpt i Za;obtain ⟨⟨q1,q2,q3,q4⟩,q5⟩:=hpt (i+1) Za
  simp_all [Zb9]
 ·obtain ⟨⟨p1,p2,p3,p4⟩,_⟩:=hpt 0 Za;obtain ⟨⟨q1,q2,q3,q4⟩,_⟩:=hpt (l.length-1) Za;omega
theorem dA {n:Net} {pr f t τ:Int} (hn:netR n) (h:(Ub n pr f t τ).2.2=0):τ<=(Ub n pr f t τ).1:=by
 unfold Ub at h ⊢
 split at h
 ·simp at h
 ·rename_i c1;rw [if_neg c1]
  split at h
  ·grind
  ·rename_i c2;rw [if_neg c2]
   split at h
   ·rename_i c3;rw [if_pos c3];have hA:=KM c3;have h1:=kY (t:=τ) (hn.2.2 _ hA).1;have h2:=QU (t:=τ) (fun p hp=>((hn.2.2 _ hA).2.2 p hp).2.2) _ (ZM _)
    grind [Hj]
   ·simp at h
theorem Rz {x t sp} {st:Int} {r:List Bool} (hr:r.length<=sp.length+1) (h:(Ui x t sp st r).2=0): ∃bs:List Bool,bs.length=sp.length+1/\(XK x t sp 0 (XB t st) bs).2=0/\(Ui x t sp st r).1=(XK x t sp 0 (XB t st) bs).1.she:=by
 unfold Ui at h ⊢
 cases hf:Vh Wa none ((YY r (sp.length+1)).filterMap (Vg (XP x t sp) 0 (XB t st))) with
 | none =>
  rw [hf] at h;simp only at h ⊢;exfalso
  have hm:Y6 r (sp.length+1)∈YY r (sp.length+1):=by
   grind [YY,Y6,fromB_next]
  have h2:Vg (XP x t sp) 0 (XB t st) (Y6 r (sp.length+1))=some (XK x t sp 0 (XB t st) (Y6 r (sp.length+1))).1:=by rw [VO,if_pos h]
  have h3:(XK x t sp 0 (XB t st) (Y6 r (sp.length+1))).1∈(YY r (sp.length+1)).filterMap (Vg (XP x t sp) 0 (XB t st)):=Bt.2 ⟨_,hm,h2⟩;generalize (YY r (sp.length+1)).filterMap (Vg (XP x t sp) 0 (XB t st))=l at hf h3
  cases l with
  | nil=>simp at h3
  | cons a l =>
   rw [Vh] at hf;obtain ⟨z,e,_⟩:=QD Wa l a
   grind
 | some L =>
  simp only;have hm:=bestF_len.fmL_mem _ _ hf;obtain ⟨bs,hbs,hrun⟩:=Bt.1 hm;rw [VO] at hrun
  split at hrun
  ·rename_i h5;simp at hrun;subst hrun;obtain ⟨q,hq,rfl⟩:=Ww.1 hbs;have hql:=bestF_len.fromB_len _ _ hq
   grind
  ·cases hrun
theorem O5 {n:Nat} (h:n<10):dec n= [UInt8.ofNat (48+n)]:=by rw [dec,dif_pos h]
theorem mR {n:Nat} (h:10<=n) (h2:n<100):dec n= [UInt8.ofNat (48+n / 10),UInt8.ofNat (48+n%10)]:=by
 rw [dec,dif_neg Za,O5 Za];rfl
theorem IU {s:List UInt8} {k k':IntKind} {a b:Int} (h:0<=a/\a<=b/\b<=(s.length:Int)):Hl (some .string) s (.p (.int k a)) (.p (.int k' b))=some (.p (.str ((s.take b.toNat).drop a.toNat))):=by
 simp_all [Hl]
def digT : List UInt8:=(List.range 36).map fun i=>UInt8.ofNat (if i<10 then 48+i else 87+i)
def smalT : List UInt8:=(List.range 100).flatMap fun i=> [UInt8.ofNat (48+i / 10),UInt8.ofNat (48+i%10)]
theorem mS : ∀n,n<10->(digT.take (n+1)).drop n= [UInt8.ofNat (48+n)]:=by decide
theorem iW : ∀n,n<100->(smalT.take (2*n+2)).drop (2*n)= [UInt8.ofNat (48+n / 10),UInt8.ofNat (48+n%10)]:=by decide+kernel
theorem pV (n:Nat) (hn:n<100):PC 331 [.p (.int .i64 (n:Int))] (.str (dec n)):=by
 refine Zc Tryz.func331 rfl ZbA ?_;simp (disch:=omega) only [Tryz.f331,go_sem,seval];refine cD ?_ ?_<;>intro h<;>simp (disch:=omega) only [Sh.out h,go_sem,seval]
 ·rw [O5 Za,IU (by simp;omega)]
  have e1:((n:Int)+1).toNat=n+1:=Za
  have e2:((n:Int)).toNat=n:=Za
  rw [e1,e2];refine (X0 (fun z=>Di (some (V.p (PV.str z))) _) (mS n Za)).mpr ?_;simp (disch:=omega) only [go_sem,seval]
 ·rw [mR Za hn,IU (by simp;omega)]
  have e1:((n:Int)*2+2).toNat=2*n+2:=Za
  have e2:((n:Int)*2).toNat=2*n:=Za
  rw [e1,e2];refine (X0 (fun z=>Di (some (V.p (PV.str z))) _) (iW n Za)).mpr ?_;simp (disch:=omega) only [go_sem,seval]
theorem cQ (n:Nat) (hn:n<100):PC 330 [.p (.int .i64 (n:Int)),.p (.int .i64 10)] (.str (dec n)):=by
 refine Zc Tryz.func330 rfl Zbz ?_
 have h0:(0:Int)<=(n:Int):=Za
 have h1:(n:Int)<100:=Za
 simp (disch:=omega) only [Tryz.f330,h0,h1,go_sem,seval];refine (pV n hn).use ?_;simp (disch:=omega) only [go_sem,seval]
theorem nR (n:Nat) (hn:n<100):PC 329 [.p (.int .i64 (n:Int))] (.str (dec n)):=by
 refine Zc Tryz.func329 rfl Zby ?_;simp (disch:=omega) only [Tryz.f329,go_sem,seval];refine (cQ n hn).use ?_;simp (disch:=omega) only [go_sem,seval]
theorem ZbB (n:Nat) (hn:n<100):PC 328 [.p (.int .i64 (n:Int))] (.str (dec n)):=by
 refine Zc Tryz.func328 rfl Zbx ?_;simp (disch:=omega) only [Tryz.f328,go_sem,seval];refine (nR n hn).use ?_;simp (disch:=omega) only [go_sem,seval]
theorem MO (n a b:Int):PC 321 [.p (.int .i64 n),.p (.int .i64 a),.p (.int .i64 b)] (.bool (decide (a<=n)&&decide (n<=b))):=by
 refine Zc Tryz.func321 rfl Zbq ?_;simp (disch:=omega) only [Tryz.f321,go_sem,seval]
 repeat' (first | (refine gT ?_ ?_<;>intro hq<;>simp (disch:=omega) only [Sh.out hq,go_sem,seval,↓reduceIte]) | (refine Uf (fun hq=> ?_) (fun hq=> ?_)<;>(try simp only [Zr,Yd,Xl] at hq)<;>simp (disch:=omega) only [Sh.out hq,go_sem,seval]) | (refine Q1 (fun hq=> ?_) (fun hq=> ?_)<;>(try simp only [Zr,Yd,Xl] at hq)<;>simp (disch:=omega) only [Sh.out hq,go_sem,seval]))
 all_goals (simp;first | done | omega)
theorem gB (l:List Pt) (c:Bool) (hl:WG l):PC 325 [.p (.list c (l.map Fk))] (.list true []):=by
 obtain ⟨⟨hl1,hl2⟩,hpt⟩:=hl;refine Zc Tryz.func325 rfl Zbu ?_
 have e1: ¬(l.length:Int)=0:=Za
 have e2: ¬(16:Int)<(l.length:Int):=Za
 simp (disch:=omega) only [Tryz.f325,e1,e2,go_sem,seval];refine Zi [0,19,20] (fun k:Nat=> [(3,.p (.list true [])),(21,.p (.int .i64 k))]) (fun _=> []) (fun k=>k<=l.length) (fun k=>l.length-k) 0 Zb (Weak.mk ?_) ?_
 ·simp (disch:=omega) only [go_sem,seval,↓reduceIte]
 ·intro k hk;refine X8 ?_;refine cD ?_ ?_<;>intro h<;>simp (disch:=omega) only [Sh.out h,go_sem,seval,↓reduceIte]
  ·have hk2:k<l.length:=Za
   obtain ⟨⟨p1,p2,p3,p4⟩,q⟩:=hpt k hk2;refine (ZbB k Za).use (X8 ?_);refine (MO (nth l k).t 0 4096).use (X8 ?_);simp (disch:=omega) only [p1,p2,go_sem,seval];refine gF ?_ ?_<;>intro h3<;>simp (disch:=omega) only [Sh.out h3,go_sem,seval,↓reduceIte]
   ·omega
   ·refine cD ?_ ?_<;>intro h4<;>simp (disch:=omega) only [Sh.out h4,go_sem,seval,↓reduceIte]
    ·omega
    ·refine Z6 (X8 ?_);refine gT ?_ ?_<;>intro h5<;>simp (disch:=omega) only [Sh.out h5,go_sem,seval,↓reduceIte]
     ·obtain ⟨r1,r2⟩:=q Za;refine gF ?_ ?_<;>intro h6<;>simp (disch:=omega) only [Sh.out h6,go_sem,seval,↓reduceIte]
      ·omega
      ·refine cD ?_ ?_<;>intro h7<;>simp (disch:=omega) only [Sh.out h7,go_sem,seval,↓reduceIte]
       ·omega
       ·exact ⟨k+1,Za,Za,wk⟩
     ·exact ⟨k+1,Za,Za,wk⟩
theorem O2 (p:Pt) (t:Int) (h:0<=p.t/\p.t<=4096) (ht:0<=t/\t<=1073741824):PC 327 [.p (Fk p),.p (.int .i64 t)] (.int .i64 (p.t-t)):=by
 refine Zc Tryz.func327 rfl Zbw ?_;simp (disch:=omega) only [Tryz.f327,go_sem,seval,↓reduceIte]
theorem pM (l:List Pt) (c:Bool) (hl:WG l):PC 322 [.p (.list c (l.map Fk))] (.bool true):=by
 refine Zc Tryz.func322 rfl Zbr ?_;simp (disch:=omega) only [Tryz.f322,go_sem,seval];refine (gB l c hl).use ?_;simp (disch:=omega) only [go_sem,seval]
structure PosT (l:List Pt) (t:Int) (i:Nat):Prop where
 le:i<=l.length
 lo: ∀j,j<i->(nth l j).t<t
 hi: ∀j,i<=j->j<l.length->t<=(nth l j).t
theorem ZgH (l:List Pt) (c:Bool) (t:Int) (i:Nat) (hl:WG l) (ht:0<=t/\t<=1073741824) (hi:PosT l t i):PT 326 [.p (.list c (l.map Fk)),.p (.int .i64 t),.fn (.func 327) [] []] [.p (.int .i64 (i:Int)),.p (.bool (decide (i<l.length)&&decide ((nth l i).t=t)))]:=by
 obtain ⟨⟨hl1,hl2⟩,hpt⟩:=hl;obtain ⟨hi1,hi2,hi3⟩:=hi;refine Ze [] Tryz.func326 rfl Zbv ?_;simp (disch:=omega) only [Tryz.f326,go_sem,seval];refine Zi [0,1,2,8] (fun q:Nat×Nat=> [(9,.p (.int .i64 q.1)),(10,.p (.int .i64 q.2))]) (fun _=> []) (fun q=>q.1<=i/\i<=q.2/\q.2<=l.length) (fun q=>q.2-q.1) (0,l.length) (by simp;omega) (Weak.mk ?_) ?_
 ·simp (disch:=omega) only [go_sem,seval,↓reduceIte]
 ·rintro ⟨a,b⟩ ⟨h1,h2,h3⟩;simp only at h1 h2 h3;refine X8 ?_;refine cD ?_ ?_<;>intro h<;>simp (disch:=omega) only [Sh.out h,go_sem,seval,↓reduceIte]
  ·have hm:(a+b) / 2<l.length:=Za
   obtain ⟨⟨p1,p2,p3,p4⟩,q⟩:=hpt _ hm
   have hs:((a:Int)+(b:Int)).fdiv (2^min 1 64)=(((a+b) / 2:Nat):Int):=by
    grind
   have em:((((a+b) / 2:Nat)):Int).toNat=(a+b) / 2:=Za
   have hnb:((a+b) / 2<i)↔(nth l ((a+b) / 2)).t-t<0:=by
    grind
   rw [hs];refine X8 ?_;refine (O2 (nth l ((a+b) / 2)) t ⟨p1,p2⟩ ht).use (X8 ?_);refine cD ?_ ?_<;>intro h4<;>simp (disch:=omega) only [Sh.out h4,go_sem,seval,↓reduceIte]
   ·exact ⟨((a+b) / 2+1,b),⟨Za,h2,h3⟩,Za,wk⟩
   ·exact ⟨(a,(a+b) / 2),⟨h1,Za,Za⟩,Za,wk⟩
  ·have:a=i:=Za
   subst this;refine gT ?_ ?_<;>intro h4<;>simp (disch:=omega) only [Sh.out h4,go_sem,seval,↓reduceIte]
   ·have hm:a<l.length:=Za
    obtain ⟨⟨p1,p2,p3,p4⟩,q⟩:=hpt _ hm;refine (O2 (nth l a) t ⟨p1,p2⟩ ht).use (X8 ?_);have e5:((nth l a).t-t=0)=((nth l a).t=t):=propext Za;exact we (by simp (disch:=omega) only [e5,hm,go_sem,seval])
   ·have hm: ¬a<l.length:=Za
    exact we (by simp (disch:=omega) only [hm,go_sem,seval])
theorem BK {l:List Pt} (hl:WG l) {k:Nat} (hk:k<l.length): ∀j,j<k->(nth l j).t<(nth l k).t:=by
 obtain ⟨_,hpt⟩:=hl
 induction k with
 | zero=>omega
 | succ k ih =>
  intro j hj;obtain ⟨_,q⟩:=hpt (k+1) hk
  grind
theorem pC {l:List Pt} (hl:WG l) (t:Int): ∃i,PosT l t i:=by
 have: ∀n,n<=l.length-> ∃i,i<=n/\(∀j,j<i->(nth l j).t<t)/\(i<n->t<=(nth l i).t):=by
  intro n
  induction n with
  | zero=>simp
  | succ n ih =>
   grind
 obtain ⟨i,h1,h2,h3⟩:=this l.length (ZM _);refine ⟨i,h1,h2,fun j hj hjl=> ?_⟩;rcases Nat.lt_or_eq_of_le hj with h | h
 ·have:=BK hl hjl i h;omega
 grind
theorem kX {l:List Pt} {t:Int} {i:Nat} (hl:WG l) (h:PosT l t i) (hi:i<l.length) (e:(nth l i).t=t):Q5 l t=(nth l i).a:=by
 by_cases g:i+1<l.length
 ·have m:=BK hl g i Za;rw [Hk g (fun j hj=> ?_) (by grind [Qp]),FJ]
  ·rw [e,Int.sub_self,Int.zero_mul,Int.zero_add];rw [Int.ediv_eq_zero_of_lt Za Za];omega
  ·have:(nth l (j+1)).t<=t:=by
    rcases Nat.lt_or_eq_of_le (show j+1<=i by omega) with h1 | h1
    ·have:=h.lo _ h1;omega
    grind
   simp [Qp];omega
 ·have hi1:i=l.length-1:=Za
  rw [Dl (fun j hj=> ?_)]
  ·split
   ·grind
   ·have:i=0:=by
     by_cases g2:i=0
     ·exact g2
     ·have:=h.lo 0 Za;omega
    grind
  ·have:(nth l (j+1)).t<=t:=by
    rcases Nat.lt_or_eq_of_le (show j+1<=i by omega) with h1 | h1
    ·have:=h.lo _ h1;omega
    grind
   simp [Qp];omega
theorem lA {l:List Pt} {t:Int} (hl:WG l) (h:PosT l t 0) (e: ¬(nth l 0).t=t):Q5 l t=t+(nth l 0).a-(nth l 0).t:=by
 have h0:=h.hi 0 (ZM _) hl.1.1;rw [Dl (fun j hj=> ?_),if_neg Za]
 have:t<(nth l j).t:=by
  by_cases g:j=0
  ·grind
  ·have:=BK hl (show j<l.length by omega) 0 Za;omega
 simp [Qp];omega
theorem kZ {l:List Pt} {t:Int} (h:PosT l t l.length) (hl:0<l.length):Q5 l t=t+(nth l (l.length-1)).a-(nth l (l.length-1)).t:=by
 rw [Dl (fun j hj=> ?_),if_pos (h.lo 0 hl)];have:=h.lo (j+1) hj;simp [Qp];omega
theorem T9 {l:List Pt} {t:Int} {i:Nat} (h:PosT l t i) (h0:0<i) (hi:i<l.length) (e: ¬(nth l i).t=t):Q5 l t=FJ (nth l (i-1)) (nth l i) t:=by
 have e1:i-1+1=i:=Za
 have h1:=h.lo (i-1) Za;have h2:=h.hi i (ZM _) hi;have:=Hk (l:=l) (t:=t) (i:=i-1) Za (fun j hj=>by have:=h.lo (j+1) Za;simp [Qp];omega) (by grind [Qp]);rw [this,e1]
theorem GT {p q:Pt} {t:Int} (h1:p.t<=t) (h2:t<q.t) (hp:0<=p.t) (hq:q.t<=4096) (ha:p.a<=q.a) (hpa:0<=p.a) (hqa:q.a<=8192) :
  IntKind.i64.wrap (p.a+IntKind.i64.wrap ((IntKind.i64.wrap (IntKind.i64.wrap (IntKind.i64.wrap ((t-p.t)*(q.a-p.a))+(q.t-p.t))-1)).tdiv (q.t-p.t)))=FJ p q t:=by
 have hm:=E2 h1 h2 hp hq ha hpa hqa;unfold FJ;generalize hM:(t-p.t)*(q.a-p.a)=m at hm
 have hd:0<=(m+(q.t-p.t)-1) / (q.t-p.t)/\(m+(q.t-p.t)-1) / (q.t-p.t)<=m+(q.t-p.t)-1:=by
  refine ⟨Int.ediv_nonneg Za Za,Int.ediv_le_self _ Za⟩
 rw [IntWalk.i64_in m Za,IntWalk.i64_in (m+(q.t-p.t)) Za,IntWalk.i64_in (m+(q.t-p.t)-1) Za,Int.tdiv_eq_ediv_of_nonneg Za,IntWalk.i64_in ((m+(q.t-p.t)-1) / (q.t-p.t)) Za,IntWalk.i64_in _ Za]
 congr 2
 omega
theorem NZ (l:List Pt) (c:Bool) (t:Int) (hl:WG l) (ht:0<=t/\t<=1073741824):PC 323 [.p (.list c (l.map Fk)),.p (.int .i64 t)] (.int .i64 (Q5 l t)):=by
 obtain ⟨i,hi⟩:=pC hl t;have hl':=hl;obtain ⟨⟨hl1,hl2⟩,hpt⟩:=hl';refine Zc Tryz.func323 rfl Zbs ?_;simp (disch:=omega) only [Tryz.f323,go_sem,seval];refine X6 (ZgH l c t i hl ht hi) (X8 ?_);obtain ⟨i1,i2,i3⟩:=id hi;refine cD ?_ ?_<;>intro h<;>simp (disch:=omega) only [Sh.out h,go_sem,seval,↓reduceIte]
 ·grind [kX]
 ·refine cD ?_ ?_<;>intro h0<;>simp (disch:=omega) only [Sh.out h0,go_sem,seval]
  ·have:i=0:=Za
   subst this;obtain ⟨p1,p2⟩:=hpt 0 Za;rw [lA hl hi (fun g=>h ⟨Za,g⟩)];refine Z6 ?_;simp (disch:=omega) only [go_sem,seval,↓reduceIte]
  ·refine cD ?_ ?_<;>intro h1<;>simp (disch:=omega) only [Sh.out h1,go_sem,seval]
   ·have:i=l.length:=Za
    subst this;obtain ⟨p1,p2⟩:=hpt (l.length-1) Za;rw [kZ hi Za]
    have e1:((l.length:Int)-1).toNat=l.length-1:=Za
    refine Z6 ?_;simp (disch:=omega) only [go_sem,seval,↓reduceIte]
   ·have g1:i<l.length:=Za
    rw [T9 hi Za g1 (fun g=>h ⟨g1,g⟩)];have g2:=BK hl g1 (i-1) Za;obtain ⟨p1,p2⟩:=hpt i g1;obtain ⟨p3,p4⟩:=hpt (i-1) Za
    have e1:((i:Int)-1).toNat=i-1:=Za
    have q1:=i2 (i-1) Za;have q2:=i3 i (ZM _) g1;have q3: ¬(nth l i).t=t:=fun g=>h ⟨g1,g⟩;have q4:=p2 Za;refine Xo [9,10,11] 12 mixed Zd Zd Zd Zb ?_;simp (disch:=omega) only [e1,go_sem,seval];refine Gt 9 10 _ _ _ _ Zd (by refine X8 ?_;exact ⟨rfl,rfl⟩) (by refine X8 ?_;exact ⟨rfl,rfl⟩) ?_ ?_
    ·refine ZV 10 _ _ Zd (by refine X8 ?_;exact ⟨rfl,rfl⟩) (ZV 11 _ _ Zd (by refine X8 ?_;exact ⟨rfl,rfl⟩) (Yo ?_));refine X8 ?_;refine Z6 (X8 ?_);exact X0 (fun z=>V.p (PV.int IntKind.i64 z)) (GT Za Za Za Za Za Za Za)
    ·refine ZV 9 _ _ Zd (by refine X8 ?_;exact ⟨rfl,rfl⟩) (ZV 11 _ _ Zd (by refine X8 ?_;exact ⟨rfl,rfl⟩) (Yo ?_));refine X8 ?_;refine Z6 (X8 ?_);exact X0 (fun z=>V.p (PV.int IntKind.i64 z)) (GT Za Za Za Za Za Za Za)
theorem SC (l:List Pt) (c:Bool) (t:Int) (hl:WG l) (ht:0<=t/\t<=1073741824):PC 317 [.p (.list c (l.map Fk)),.p (.int .i64 t)] (.int .i64 (Q5 l t)):=by
 refine Zc Tryz.func317 rfl Zbm ?_;simp (disch:=omega) only [Tryz.f317,go_sem,seval];refine (MO t 0 1073741824).use (X8 ?_);simp (disch:=omega) only [ht,go_sem,seval];refine (pM l c hl).use (X8 ?_);refine (NZ l c t hl ht).use ?_;simp (disch:=omega) only [go_sem,seval]
theorem L6 (n:Net) (p:Int) (hn:n.places.length<=1048576):PC 301 [.p (Al n),.p (.int .i64 p)] (.bool (Kf n p)):=by
 refine Zc Tryz.func301 rfl Za8 ?_;simp (disch:=omega) only [Tryz.f301,go_sem,seval];refine gT ?_ ?_<;>intro h<;>simp (disch:=omega) only [Sh.out h,go_sem,seval,↓reduceIte]
 ·simp [Kf,h]
 ·simp [Kf,h]
theorem qP (a:Arc):PC 316 [.p (Wj a)] (.agg [.int .i64 a.src,.int .i64 a.dst,.int .i64 a.prof]):=by
 refine Zc Tryz.func316 rfl Zbl ?_;simp (disch:=omega) only [Tryz.f316,go_sem,seval,↓reduceIte]
theorem oS (a:Arc) (t:Int) (ha:kV a) (ht:0<=t/\t<=1073741824):PC 303 [.p (Wj a),.p (.int .i64 t)] (.int .i64 (Hj a t)):=by
 obtain ⟨h1,h2,h3⟩:=ha;have hr:=DZ h1 ht;have hs:=QU (t:=t) (fun p hp=>(h3 p hp).2.2);refine Zc Tryz.func303 rfl Zba ?_;simp (disch:=omega) only [Tryz.f303,go_sem,seval];refine (SC a.travel a.travel_c t h1 ht).use (X8 ?_);refine Zi [1,13,14] (fun k:Nat=> [(5,.p (.int .i64 (Q5 a.travel t+JI a.slow t k))),(15,.p (.int .i64 k))]) (fun _=> [WN a]) (fun k=>k<=a.slow.length) (fun k=>a.slow.length-k) 0 Zb (Weak.mk ?_) ?_
 ·simp (disch:=omega) only [WN,JI,Qh,go_sem,seval];simp
 ·intro k hk;have hsk:=hs k hk;simp (disch:=omega) only [WN,go_sem,seval];refine cD ?_ ?_<;>intro h<;>simp (disch:=omega) only [Sh.out h,go_sem,seval,↓reduceIte]
  ·have hk2:k<a.slow.length:=Za
   have hp:=h3 _ (ZN hk2);have hsn:=AO (t:=t) hk2;refine ZB ?_ ?_<;>intro h4
   ·rw [if_pos h4] at hsn;exact ⟨k+1,Za,Za,Weak.mk (by simp (disch:=omega) only [hsn,Int.add_assoc,go_sem,seval])⟩
   ·rw [if_neg h4] at hsn;exact ⟨k+1,Za,Za,Weak.mk (by simp (disch:=omega) only [hsn,go_sem,seval])⟩
  grind [Hj]
theorem oV (n:Net) (pr f t:Int) (hn:n.arcs.length<=1048576):PT 302 [.p (Al n),.p (.int .i64 pr),.p (.int .i64 f),.p (.int .i64 t)] [.p (Wj (Wq n pr f t).1),.p (.bool (Wq n pr f t).2)]:=by
 refine Ze [] Tryz.func302 rfl Za9 ?_;simp (disch:=omega) only [Tryz.f302,go_sem,seval];refine Zi [8,10,18,19] (fun k:Nat=> [(20,.p (.int .i64 k))]) (fun _=>ZU n++ [WN VE,.cells [.p (.int .i64 f),.p (.int .i64 t),.p (.int .i64 pr)]]) (fun k=>k<=n.arcs.length/\ ∀j,j<k->W3 pr f t (nth n.arcs j)=false) (fun k=>n.arcs.length-k) 0 Zb (Weak.mk ?_) ?_
 ·simp (disch:=omega) only [ZU,WN,VE,Zk,Xu,ZF,go_sem,seval]
 ·rintro k ⟨hk,hno⟩;simp (disch:=omega) only [ZU,WN,VE,Zk,Xu,ZF,go_sem,seval];refine cD ?_ ?_<;>intro h<;>simp (disch:=omega) only [Sh.out h,go_sem,seval,↓reduceIte]
  ·have hk2:k<n.arcs.length:=Za
   have nx:W3 pr f t (nth n.arcs k)=false-> ∀j,j<k+1->W3 pr f t (nth n.arcs j)=false:=fun h=>Zm.2 ⟨hno,h⟩;refine Z6 (X8 ?_);refine Zq (qP (nth n.arcs k)) (X8 ?_);refine ZB ?_ ?_<;>intro h1
   ·have e:=Lt hk2 hno (by simp [W3,h1]);obtain ⟨rfl,rfl,rfl⟩:=h1;rw [e];exact we
   ·have e2:W3 pr f t (nth n.arcs k)=false:=by
     simp_all [W3]
    exact ⟨k+1,⟨Za,nx e2⟩,Za,wk⟩
  ·have hkn:k=n.arcs.length:=Za
   subst hkn;rw [Lu hno];exact we (by simp (disch:=omega) only [VE,Zk,go_sem,seval])
theorem ZiF (n:Net) (pr f t τ:Int) (hn:netR n) (hτ:0<=τ/\τ<=1073741824):PT 278 [.p (Al n),.p (.int .i64 pr),.p (.int .i64 f),.p (.int .i64 t),.p (.int .i64 τ)] [.p (.int .i64 (Ub n pr f t τ).1),.p (.int .i64 (Ub n pr f t τ).2.1),.p (.int .i64 (Ub n pr f t τ).2.2)]:=by
 refine Ze [] Tryz.func278 rfl ZaQ ?_;simp (disch:=omega) only [Tryz.f278,go_sem,seval];refine (L6 n f hn.1).use (X8 ?_);refine gF ?_ ?_<;>intro h1<;>simp (disch:=omega) only [Sh.out h1,go_sem,seval,↓reduceIte]
 ·have e:Ub n pr f t τ=(0,0,11):=by grind [Ub]
  rw [e];exact we
 ·simp only [XC] at h1;refine (L6 n t hn.1).use (X8 ?_);refine cD ?_ ?_<;>intro h2<;>simp (disch:=omega) only [Sh.out h2,go_sem,seval]
  ·have e:Ub n pr f t τ=(0,0,11):=by grind [Ub]
   rw [e];exact we
  ·simp only [XC] at h2;refine cD ?_ ?_<;>intro h3<;>simp (disch:=omega) only [Sh.out h3,go_sem,seval,↓reduceIte]
   ·have e:Ub n pr f t τ=(τ,0,0):=by grind [Ub]
    rw [e];exact we
   ·have cf:=oV n pr f t hn.2.1;have hm:= @KM n pr f t
    have e0:Ub n pr f t τ=if (Wq n pr f t).2=true then (Hj (Wq n pr f t).1 τ,(Wq n pr f t).1.miles,0) else (0,0,12):=by grind [Ub]
    rw [e0];generalize Wq n pr f t=A at cf hm ⊢;obtain ⟨a,b⟩:=A;simp only at cf hm ⊢;refine X6 cf (X8 ?_);refine cD ?_ ?_<;>intro h4<;>simp (disch:=omega) only [Sh.out h4,go_sem,seval]
    ·have hb:b=false:=by grind
     subst hb;exact we (by simp (disch:=omega) only [go_sem,seval,↓reduceIte])
    ·have hb:b=true:=by grind
     subst hb;refine Z6 (X8 ?_);refine Zq (oS a τ (hn.2.2 a (hm rfl)) hτ) (X8 ?_);exact we
def Nj (s:Stp) (a:Int):Int×Int:=if max a s.opn>s.cls then (0,14) else (max a s.opn,0)
theorem lU (s:Stp) (a:Int):PT 304 [.p (HF s),.p (.int .i64 a)] [.p (.int .i64 (Nj s a).1),.p (.int .i64 (Nj s a).2)]:=by
 refine Ze [] Tryz.func304 rfl Zbb ?_;simp (disch:=omega) only [Tryz.f304,go_sem,seval];refine cD ?_ ?_<;>intro h<;>simp (disch:=omega) only [Sh.out h,go_sem,seval]
 ·have e:Nj s a=(0,14):=by simp_all [Nj]
  rw [e];exact we
 ·have e:Nj s a=(max a s.opn,0):=by simp_all [Nj]
  rw [e];exact we
theorem gJ (l:List Ord) (c:Bool) (p:Int) (hl:l.length<=1048576):PC 236 [.p (.list c (l.map eOrd)),.p (.int .i64 p)] (.bool (decide (0<=p)&&decide (p<(l.length:Int)))):=by
 refine Zc Tryz.func236 rfl dN ?_;simp (disch:=omega) only [Tryz.f236,go_sem,seval];refine gT ?_ ?_<;>intro h<;>simp (disch:=omega) only [Sh.out h,go_sem,seval,↓reduceIte]
 all_goals simp [h]
theorem oX (x:Inst) (v:Vis) (ho:x.orders.length<=1048576) (hv:Pj x v=true) (hp:0<=(stopV x v).place):PT 241 [.p (.list x.orders_c (x.orders.map eOrd)),.p (ZS v)] [.p (HF (stopV x v)),.p (.int .i64 0)]:=by
 refine Ze [] Tryz.func241 rfl Zaq ?_;simp (disch:=omega) only [Tryz.f241,go_sem,seval];have hv':=hv;rw [Pj] at hv';have ct:=gJ x.orders x.orders_c v.order ho;rw [hv'] at ct;refine ct.use ?_;simp only [ZG,Zr] at hv';obtain ⟨h1,h2⟩:=hv'
 have hi:v.order.toNat<x.orders.length:=Za
 refine X8 ?_;refine cD ?_ ?_<;>intro hd<;>simp (disch:=omega) only [Sh.out hd,go_sem,seval,↓reduceIte]
 ·have e:stopV x v=(nth x.orders v.order.toNat).drp:=by simp [stopV,hd]
  rw [e] at hp ⊢
  have e3: ¬(nth x.orders v.order.toNat).drp.place<0:=Za
  simp (disch:=omega) only [e3,go_sem,seval];exact we
 ·have e:stopV x v=(nth x.orders v.order.toNat).pick:=by simp [stopV,hd]
  rw [e] at hp ⊢
  have e3: ¬(nth x.orders v.order.toNat).pick.place<0:=Za
  simp (disch:=omega) only [e3,go_sem,seval];exact we
theorem oU (l:List Typ) (c:Bool) (ht:l.length<=1048576):PC 291 [.p (.list c (l.map Y5))] (.int .i64 (dimsOf l)):=by
 refine Zc Tryz.func291 rfl ZaY ?_;simp (disch:=omega) only [Tryz.f291,go_sem,seval];refine cD ?_ ?_<;>intro h1<;>simp (disch:=omega) only [Sh.out h1,go_sem,seval,↓reduceIte]
 ·grind [dimsOf]
 simp_all [dimsOf]
theorem oW (a b:List Int) (c d:Bool) (ha:a.length<=1048576) (hb:b.length<=1048576):PC 268 [.p (.list c (a.map eI)),.p (.list d (b.map eI))] (.bool (UK a b)):=by
 refine Zc Tryz.func268 rfl ZaH ?_;simp (disch:=omega) only [Tryz.f268,go_sem,seval];refine cD ?_ ?_<;>intro h1<;>simp (disch:=omega) only [Sh.out h1,go_sem,seval]
 ·grind [UK]
 ·have h1':a.length=b.length:=Za
  refine Zi [1,12,13] (fun k:Nat=> [(14,.p (.int .i64 k))]) (fun _=> []) (fun k=>k<=a.length/\ ∀j,j<k->nth a j<=nth b j) (fun k=>a.length-k) 0 Zb (Weak.mk ?_) ?_
  ·simp (disch:=omega) only [go_sem,seval]
  ·rintro k ⟨hk,hno⟩;refine X8 ?_;refine cD ?_ ?_<;>intro h2<;>simp (disch:=omega) only [Sh.out h2,go_sem,seval,↓reduceIte]
   ·have hk2:k<a.length:=Za
    refine ZB ?_ ?_<;>intro h3
    ·grind [UK]
    ·exact ⟨k+1,⟨Za,Zm.2 ⟨hno,Za⟩⟩,Za,wk⟩
   ·have hkl:k=a.length:=Za
    simp_all [UK]
theorem oQ (t:Typ) (s:Int) (h1:t.skills<9223372036854775808) (h2:s<9223372036854775808):PC 264 [.p (Y5 t),.p (.int .i64 s)] (.bool (WA t s)):=by
 refine Zc Tryz.func264 rfl ZaD ?_;simp (disch:=omega) only [Tryz.f264,go_sem,seval];refine gT ?_ ?_<;>intro c1<;>simp (disch:=omega) only [Sh.out c1,go_sem,seval,↓reduceIte]
 ·refine gT ?_ ?_<;>intro c2<;>simp (disch:=omega) only [Sh.out c2,go_sem,seval,↓reduceIte]
  ·obtain ⟨M,hM⟩: ∃M:Nat,t.skills=(M:Int):=⟨t.skills.toNat,Za⟩;obtain ⟨S,rfl⟩: ∃S:Nat,s=(S:Int):=⟨s.toNat,Za⟩;have hb:=CS (S:=S) (M:=M) Za
   have e:WA t (S:Int)=(List.range 63).all fun i=> !S.testBit i||M.testBit i:=by
    simp_all [WA]
   have hd:decide (IntKind.i64.wrap ((BitVec.ofInt 64 (S:Int)&&& ~~~BitVec.ofInt 64 (M:Int)).toNat:Int)=0)=((List.range 63).all fun i=> !S.testBit i||M.testBit i):=by
    grind
   rw [e,hM];exact X0 (fun b=>V.p (PV.bool b)) hd
  grind [WA]
 grind [WA]
theorem ZbY (a b:Int) (h: -1073741824<=a/\a<=1073741824/\ -1073741824<=b/\b<=1073741824):PC 310 [.p (.int .i64 a),.p (.int .i64 b)] (.int .i64 (a+b)):=by
 refine Zc Tryz.func310 rfl Zbf ?_;simp (disch:=omega) only [Tryz.f310,go_sem,seval]
theorem oA (a b:Int) (h: -1073741824<=a/\a<=1073741824/\ -1073741824<=b/\b<=1073741824):PC 311 [.p (.int .i64 a),.p (.int .i64 b)] (.int .i64 (a-b)):=by
 refine Zc Tryz.func311 rfl Zbg ?_;simp (disch:=omega) only [Tryz.f311,go_sem,seval]
def TC (f:Nat->Int) (n k:Nat):List Int:=(List.range n).map fun j=>if j<k then f j else 0
theorem oB {f:Nat->Int} {n k:Nat} :(TC f n k).length=n:=by simp [TC]
theorem eO {f:Nat->Int} {n:Nat} :TC f n 0=List.replicate n 0:=by
 apply UN (by simp [TC]);grind [TC]
theorem eN {f:Nat->Int} {n:Nat} :TC f n n=(List.range n).map f:=by
 simp_all [TC]
theorem oC {f:Nat->Int} {n k:Nat} (h:k<n):(TC f n k).set k (f k)=TC f n (k+1):=by
 apply UN (by simp [TC]);grind [TC]
theorem F8 (a b:List Int) (c d:Bool) (g:FuncId) (f:Int->Int->Int) (hl:a.length=b.length) (ha:a.length<=1048576)
  (hf: ∀j,j<a.length->ACalls Tryz.prog g [.p (.int .i64 (nth a j)),.p (.int .i64 (nth b j))] [] fun x H'=>x= .p (.int .i64 (f (nth a j) (nth b j)))/\H'= []) :
  PT 309 [.p (.list c (a.map eI)),.p (.list d (b.map eI)),.fn (.func g) [] []] [.p (.list false (((List.range a.length).map fun j=>f (nth a j) (nth b j)).map eI)),.p (.int .i64 0)]:=by
 refine Ze [9] Tryz.func309 rfl Zbe ?_;simp (disch:=omega) only [Tryz.f309,go_sem,seval];refine cD ?_ ?_<;>intro h0<;>simp (disch:=omega) only [Sh.out h0,go_sem,seval]
 ·omega
 ·have hz:=eO (f:=fun j=>f (nth a j) (nth b j)) (n:=a.length);have hml:=fun k=>oB (f:=fun j=>f (nth a j) (nth b j)) (n:=a.length) (k:=k);refine ZI [9] [0,1,2,8,19] (fun k:Nat=> [(20,.p (.int .i64 k))]) (fun k=> [.elems 1 ((TC (fun j=>f (nth a j) (nth b j)) a.length k).map eI)]) (fun k=>k<=a.length) (fun k=>a.length-k) 0 Zb (Weak.mk ?_) ?_
  ·simp (disch:=omega) only [hz,go_sem,seval];rw [List.map_replicate];rfl
  ·intro k hk;refine X8 ?_;refine cD ?_ ?_<;>intro h1<;>simp (disch:=omega) only [Sh.out h1,go_sem,seval,↓reduceIte]
   ·have hk2:k<a.length:=Za
    have hs:=oC (f:=fun j=>f (nth a j) (nth b j)) (n:=a.length) hk2;have hk3:=hml k;refine Z3 12 mixed Zd Zd ?_;refine X8 ?_;refine Zq (hf k hk2) ?_;refine X8 ?_;simp (disch:=first | omega | (simp only [Zs,ZH,ZQ,Xp,ZA,Xg]<;>omega)) only [go_sem,seval,↓reduceIte];refine ⟨k+1,Za,Za,Weak.mk ?_⟩;simp (disch:=omega) only [<- hs,go_sem,seval];rw [W6];rfl
   ·have hkl:k=a.length:=Za
    subst hkl;rw [<- eN];have hk3:=hml a.length;refine Zp (Weak.fz (o:=0) (by rfl)) ?_;refine Zf [] _ _ _ _ ?_;simp (disch:=omega) only [Zu,Zk,Z9,go_sem,seval];rw [if_pos hk3];exact we
theorem fZ (a b:List Int) (c d:Bool) (hl:a.length=b.length) (ha:a.length<=1048576) (h: ∀j,j<a.length-> -1073741824<=nth a j/\nth a j<=1073741824/\ -1073741824<=nth b j/\nth b j<=1073741824):PT 292 [.p (.list c (a.map eI)),.p (.list d (b.map eI))] [.p (.list false ((DQ a b).map eI)),.p (.int .i64 0)]:=by
 refine Ze [] Tryz.func292 rfl ZaZ ?_;simp (disch:=omega) only [Tryz.f292,go_sem,seval];refine X6 (F8 a b c d 310 (fun m n=>m+n) hl ha fun j hj=>ZbY _ _ (h j hj)) ?_;simp (disch:=omega) only [DQ,go_sem,seval];exact we
theorem ZbV (a b:List Int) (c d:Bool) (hl:a.length=b.length) (ha:a.length<=1048576) (h: ∀j,j<a.length-> -1073741824<=nth a j/\nth a j<=1073741824/\ -1073741824<=nth b j/\nth b j<=1073741824):PT 293 [.p (.list c (a.map eI)),.p (.list d (b.map eI))] [.p (.list false ((qA a b).map eI)),.p (.int .i64 0)]:=by
 refine Ze [] Tryz.func293 rfl Za0 ?_;simp (disch:=omega) only [Tryz.f293,go_sem,seval];refine X6 (F8 a b c d 311 (fun m n=>m-n) hl ha fun j hj=>oA _ _ (h j hj)) ?_;simp (disch:=omega) only [qA,go_sem,seval];exact we
theorem gD (x:Inst) (r:Rte) (ht:0<=r.typ/\r.typ<(x.types.length:Int)) (hv: ∀v∈r.visits,Pj x v=true) (hl:r.visits.length<=1048576) (hxl:x.types.length<=1048576) (hol:x.orders.length<=1048576)
  (hs:(ZX x r).skills<9223372036854775808) (ho: ∀o∈x.orders,o.skills<9223372036854775808) :
  PC 219 [.p (Zv x),.p (Z0 r)] (.int .i64 (if (r.visits.any fun v=> !WA (ZX x r) (nth x.orders v.order.toNat).skills)=true then 18 else 0)):=by
 refine Zc Tryz.func219 rfl zZ ?_;simp (disch:=omega) only [Tryz.f219,go_sem,seval];refine Zi [2,3,8,9] (fun k:Nat=> [(10,.p (.int .i64 k))]) (fun _=> [Zg x,.cells [.p (.int .i64 r.typ),.p (.int .i64 r.start),.p (.list r.rests_c (r.rests.map eB)),.p (.list r.visits_c (r.visits.map ZS))]]) (fun k=>k<=r.visits.length/\ ∀j,j<k->WA (ZX x r) (nth x.orders (nth r.visits j).order.toNat).skills=true) (fun k=>r.visits.length-k) 0 Zb (Weak.mk ?_) ?_
 ·simp (disch:=omega) only [Zg,go_sem,seval]
 ·rintro k ⟨hk,hno⟩;refine Yi ?_;refine cD ?_ ?_<;>intro h1<;>simp (disch:=omega) only [Sh.out h1,go_sem,seval,↓reduceIte]
  ·have hk2:k<r.visits.length:=Za
   have hin:=hv _ (ZN hk2);simp only [Pj,ZG,Zr] at hin;obtain ⟨i1,i2⟩:=hin
   have hi:(nth r.visits k).order.toNat<x.orders.length:=Za
   have ho':=ho _ (ZN hi);refine Z6 (X8 ?_);refine Zq (oQ (ZX x r) (nth x.orders (nth r.visits k).order.toNat).skills Za Za) (X8 ?_);refine ZB ?_ ?_<;>intro h2
   ·have:(r.visits.any fun v=> !WA (ZX x r) (nth x.orders v.order.toNat).skills)=true:=by
     grind [ZN]
    grind
   ·exact ⟨k+1,⟨Za,Zm.2 ⟨hno,by grind⟩⟩,Za,wk⟩
  ·have: ¬(r.visits.any fun v=> !WA (ZX x r) (nth x.orders v.order.toNat).skills)=true:=by
    rw [Vr];rintro ⟨v,hv,e⟩;obtain ⟨j,hj,rfl⟩:=Z4.1 hv
    grind [Zj]
   grind
def PX (x:Inst) (d:Nat) (ms:List Int) (k:Nat):List Int:=(ms.take k).foldl (fun s i=>if (nth x.orders i.toNat).pick.place<0 then DQ s (nth x.orders i.toNat).load else s) (List.replicate d 0)
theorem MD {x:Inst} {d:Nat} {ms:List Int} {k:Nat} (h:k<ms.length):PX x d ms (k+1)=if (nth x.orders (nth ms k).toNat).pick.place<0 then DQ (PX x d ms k) (nth x.orders (nth ms k).toNat).load else PX x d ms k:=by
 grind [PX,Zx,Zj]
theorem PY {x:Inst} {d:Nat} {ms:List Int} (hms: ∀i∈ms,∀j,j<d->0<=nth (nth x.orders i.toNat).load j/\nth (nth x.orders i.toNat).load j<=1000): ∀k,k<=ms.length->(PX x d ms k).length=d/\ ∀j,j<d->0<=nth (PX x d ms k) j/\nth (PX x d ms k) j<=1000*k
 | 0,_=>by
  grind [PX,Zj]
 | k+1,h=>by
  obtain ⟨h1,h2⟩:=PY hms k Za;rw [MD Za]
  split
  ·refine ⟨by simp [DQ,h1],fun j hj=> ?_⟩;have a1:=h2 j hj;have a2:=hms _ (ZN (show k<ms.length by omega)) j hj;rw [DQ,Kc Za];omega
  ·exact ⟨h1,fun j hj=>by have:=h2 j hj;omega⟩
theorem pY (x:Inst) (S:Int) (d:Nat) (hd:d<=3) (hol:x.orders.length<=1048576) (hms: ∀i∈XO S 63,0<=i/\i<(x.orders.length:Int)) (hml:(XO S 63).length<=63)
  (hld: ∀o∈x.orders,o.load.length=d/\ ∀n∈o.load,0<=n/\n<=1000) :
  PC 290 [.p (Zv x),.p (.int .i64 S),.p (.int .i64 (d:Int))] (.list false ((PX x d (XO S 63) (XO S 63).length).map eI)):=by
 have hmo: ∀i∈XO S 63,i.toNat<x.orders.length:=fun i hi=>by grind
 have hrg:=PY (x:=x) (d:=d) (ms:=XO S 63) fun i hi j hj=>by
  grind [ZN]
 refine Zc Tryz.func290 rfl ZaX ?_;simp (disch:=omega) only [Tryz.f290,go_sem,seval];refine (Gz S).useF (X8 ?_);refine Zp ((Weak.fz (o:=1) (by rfl)).trans (Weak.fz (o:=2) (by rfl))) ?_;simp (disch:=omega) only [Zu,Zk,X7,Z9,List.length_replicate,eq_self,go_sem,seval]
 have hz:List.replicate d (PV.int .i64 0)=(PX x d (XO S 63) 0).map eI:=by
  show _=(List.replicate d 0).map eI
  rw [List.map_replicate];rfl
 refine Zi [3,13,14] (fun k:Nat=> [(7,.p (.list false ((PX x d (XO S 63) k).map eI))),(15,.p (.int .i64 k))]) (fun _=> [Zg x,.dead,.dead]) (fun k=>k<=(XO S 63).length) (fun k=>(XO S 63).length-k) 0 Zb (Weak.mk ?_) ?_
 ·simp (disch:=omega) only [Zg,hz,go_sem,seval]
 ·intro k hk;have hk1:=hrg k hk;have hsn:=fun h=>MD (x:=x) (d:=d) (ms:=XO S 63) (k:=k) h;refine Yi ?_;refine cD ?_ ?_<;>intro h1<;>simp (disch:=omega) only [Sh.out h1,go_sem,seval,↓reduceIte]
  ·have hk2:k<(XO S 63).length:=Za
   have hm:=hms _ (ZN hk2);have hi:=hmo _ (ZN hk2);have hlo:=hld _ (ZN hi);have hsn:=hsn hk2;refine X8 ?_;refine ZB ?_ ?_<;>intro h2
   ·rw [if_pos h2] at hsn;refine X6 (fZ (PX x d (XO S 63) k) (nth x.orders (nth (XO S 63) k).toNat).load false (nth x.orders (nth (XO S 63) k).toNat).load_c Za Za fun j hj=> ?_) ?_
    ·have b1:=hk1.2 j Za;have b2:=hlo.2 _ (ZN (show j<(nth x.orders (nth (XO S 63) k).toNat).load.length by omega));omega
    ·refine X8 ?_;exact ⟨k+1,Za,Za,Weak.mk (by simp (disch:=omega) only [hsn,go_sem,seval])⟩
   ·rw [if_neg h2] at hsn;exact ⟨k+1,Za,Za,Weak.mk (by simp (disch:=omega) only [hsn,go_sem,seval])⟩
  grind
theorem NA {p:Nat->Bool} {n:Nat} (h: ∀i,n<=i->p i=false): ∀k,n<=k->(List.range k).filter p=(List.range n).filter p:=by
 intro k hk
 induction k with
 | zero=>grind
 | succ k ih =>
  grind [VT]
theorem Zil {x:Inst} {l:List Vis} (hi:Inr x l) (hn:x.orders.length<=10):XO ((ordS l:Nat):Int) 63=((List.range x.orders.length).filter fun (i:Nat)=>hasO l (i:Int)).map fun (i:Nat)=>(i:Int):=by
 have key: ∀i:Nat,i<=62->sHas ((ordS l:Nat):Int) (i:Int)=hasO l (i:Int):=fun i h=>by
  rw [QQ _ _ h,Up,WE,Yn]
  constructor
  ·rintro ⟨v,hv,e⟩;exact ⟨v,hv,by have:=hi v hv;omega⟩
  grind
 unfold XO;rw [List.filter_congr (q:=fun (i:Nat)=>hasO l (i:Int)) (fun i hm=>key i (by grind)),NA (n:=x.orders.length) (fun i h=> ?_) 63 Za]
 cases hh:hasO l (i:Int) with
 | false=>rfl
 | true =>
  obtain ⟨v,hv,e⟩:=Yn.1 hh;have:=hi v hv;omega
theorem cS {x:Inst} {d:Nat} : ∀(L:List Nat) (g:Nat->Int),(L.map fun (i:Nat)=>(i:Int)).foldl (fun s (i:Int)=>if (nth x.orders i.toNat).pick.place<0 then DQ s (nth x.orders i.toNat).load else s) ((List.range d).map g)=(List.range d).map fun j=>g j+(L.map fun i=>if (nth x.orders i).pick.place<0 then nth (nth x.orders i).load j else 0).sum
 | [],g=>Zb
 | i::L,g=>by
  rw [Zu,Qc,XU]
  by_cases h:(nth x.orders i).pick.place<0
  ·have e:DQ ((List.range d).map g) (nth x.orders i).load=(List.range d).map fun j=>g j+nth (nth x.orders i).load j:=by
    grind [DQ,Yw,Kc]
   rw [if_pos h,e,cS L]
   grind
  ·rw [if_neg h,cS L]
   grind
theorem Tf {x:Inst} {l:List Vis} (hi:Inr x l) (hn:x.orders.length<=10):PX x (dimsOf x.types).toNat (XO ((ordS l:Nat):Int) 63) (XO ((ordS l:Nat):Int) 63).length=Y9 x l 0:=by
 rw [PX,Yu,Zil hi hn];have:=cS (x:=x) (d:=(dimsOf x.types).toNat) ((List.range x.orders.length).filter fun (i:Nat)=>hasO l (i:Int)) fun _=>0
 have e:(List.range (dimsOf x.types).toNat).map (fun _=>(0:Int))=List.replicate (dimsOf x.types).toNat 0:=by
  simp_all [List.map_const']
 rw [e] at this;rw [this,Y9];refine Yw fun j _=> ?_;rw [Int.zero_add,JC,Dj]
 congr 1
 refine Yw fun i _=> ?_
 grind [fN]
theorem jC {x:Inst} {l:List Vis} {n j:Nat} {d:Nat} (hj:j<d) (hld: ∀o∈x.orders,o.load.length=d/\ ∀n∈o.load,0<=n/\n<=1000) (hn:x.orders.length<=10):0<=Dj x l n j/\Dj x l n j<=10000:=by
 have key:=PZ (f:=fun i=>if i<x.orders.length then (if (FA x l n i&&hasO l i)=true then nth (nth x.orders i).load j else 0) else 0) (b:=1000) Za (fun q=>by
  grind [ZN]) x.orders.length
 have e:Dj x l n j=((List.range x.orders.length).map fun i=>if i<x.orders.length then (if (FA x l n i&&hasO l i)=true then nth (nth x.orders i).load j else 0) else 0).sum:=by
  simp_all [Dj,Yw]
 omega
theorem TW {x:Inst} {l:List Vis} {n j:Nat} (hj:j<(dimsOf x.types).toNat) (hd:LdOk x):0<=nth (Y9 x l n) j/\nth (Y9 x l n) j<=10000:=by
 rw [Y9,Kc hj];exact jC hj (fun o ho=>by obtain ⟨h1,h2⟩:=hd.load o ho;grind) hd.ord
def sW {α:Type} (f:α->Bool) (l:List α):Int:=match l.findIdx? f with | some i=>(i:Int) | none=> -1
theorem cW {α:Type} [Inhabited α] {f:α->Bool} {l:List α} {k:Nat} (hk:k<l.length) (h:f (nth l k)=true) (hno: ∀j,j<k->f (nth l j)=false):sW f l=(k:Int):=by
 have:l.findIdx? f=some k:=by
  grind [Z5,Zj]
 simp [sW,this]
theorem cY {α:Type} [Inhabited α] {f:α->Bool} {l:List α} (hno: ∀j,j<l.length->f (nth l j)=false):sW f l= -1:=by
 have:l.findIdx? f=none:=by
  rw [List.findIdx?_eq_none_iff];intro x hx;obtain ⟨j,hj,rfl⟩:=Z4.1 hx
  grind [Zj]
 simp [sW,this]
theorem cX {α:Type} {f:α->Bool} {l:List α} :decide (0<=sW f l)=l.any f:=by
 grind [sW]
theorem R6 (l:List (List Int)) (c:Bool) (g:FuncId) (caps:List V) (H:List AM.Obj) (f:List Int->Bool) (hl:l.length<=1048576) (hW:IF H H.length H H) (hc:Xf H.length caps=true)
  (hg: ∀v∈l,ACalls Tryz.prog g (.p (kB v)::caps) H fun x H'=>x= .p (.bool (f v))/\H'=H) :
  ACalls Tryz.prog 294 [.p (.list c (l.map kB)),.fn (.func g) [] caps] H fun x H'=>x= .p (.int .i64 (sW f l))/\H'=H:=by
 refine Ya Tryz.func294 rfl Za1 (Zf [] _ _ _ _ ?_);simp (disch:=omega) only [Tryz.f294,go_sem,seval];refine Zi [0,1,7] (fun k:Nat=> [(8,.p (.int .i64 k))]) (fun _=>H) (fun k=>k<=l.length/\ ∀j,j<k->f (nth l j)=false) (fun k=>l.length-k) 0 Zb (Weak.mk ?_) ?_
 ·simp (disch:=omega) only [hW,hc,go_sem,seval];simp
 ·rintro k ⟨hk,hno⟩;refine X8 ?_;refine cD ?_ ?_<;>intro h<;>simp (disch:=omega) only [Sh.out h,go_sem,seval,↓reduceIte]
  ·have hk2:k<l.length:=Za
   have hgk:=hg (nth l k) (Zn hk2);simp (disch:=omega) only [wN,go_sem,seval] at hgk;refine hgk.useH (X8 ?_);refine cD ?_ ?_<;>intro h2<;>simp (disch:=omega) only [Sh.out h2,go_sem,seval,↓reduceIte]
   ·grind [cW]
   ·have h3:f (nth l k)=false:=Za
    refine ⟨k+1,⟨Za,Zm.2 ⟨hno,h3⟩⟩,Za,Weak.mk ?_⟩;simp (disch:=omega) only [hW,hc,go_sem,seval];simp
  grind [cY]
theorem HC (l:List (List Int)) (c:Bool) (g:FuncId) (caps:List V) (H:List AM.Obj) (f:List Int->Bool) (hl:l.length<=1048576) (hW:IF H H.length H H) (hc:Xf H.length caps=true)
  (hg: ∀v∈l,ACalls Tryz.prog g (.p (kB v)::caps) H fun x H'=>x= .p (.bool (f v))/\H'=H) :
  ACalls Tryz.prog 266 [.p (.list c (l.map kB)),.fn (.func g) [] caps] H fun x H'=>x= .p (.bool (l.any f))/\H'=H:=by
 refine Ya Tryz.func266 rfl ZaF (Zf [] _ _ _ _ ?_);simp (disch:=omega) only [Tryz.f266,go_sem,seval];refine (R6 l c g caps H f hl hW hc hg).useH (X8 ?_);rw [cX]
theorem gG (x:Inst) (r:Rte) (hx:InstOk x) (hl:r.visits.length<=1048576):PC 218 [.p (Zv x),.p (Z0 r)] (.int .i64 (Xr x r.visits)):=by
 have hf:=WV hx;obtain ⟨h1,h2⟩:=Qd.1 hx.rules
 have ha:x.apart.length<=1048576:=by
  have h3:=(Qd.1 h1).1
  grind [MV]
 have hb:x.before.length<=1048576:=by
  have h3:=(Qd.1 h2).1
  grind [MV]
 exact On x r (by have:=hf.len;omega) hl ha hb
theorem oP {x:Inst} {l:List Vis} (hi:Inr x l) (hn:x.orders.length<=10):ordR l=(((ordS l:Nat):Int),0):=by
 rw [ordR,if_pos];rw [Zw];intro v hv;have:=hi v hv;simp [CX];omega
theorem Zo2 {α:Type} (f:Nat->α) (n:Nat):(List.range n).map f++ [f n]=(List.range (n+1)).map f:=by grind [VT]
theorem gC (x:Inst) (r:Rte) (hx:InstOk x) (hl:r.visits.length<=1048576) (h0:Xr x r.visits=0) :
  PT 265 [.p (Zv x),.p (Z0 r)] [.p (.list false ((UT x r.visits).map kB)),.p (.int .i64 0)]:=by
 have hd:=UM hx;have hsq:=VD h0;have hol:=hd.ord;have hso:=U0 r hl;rw [oP hsq.inr hol] at hso
 have hD:dimsOf x.types=((dimsOf x.types).toNat:Int):=by have:=hd.dim;omega
 have cd:=oU x.types x.types_c hd.typ;rw [hD] at cd;have hst:=Tf hsq.inr hol
 have hmem: ∀i∈XO ((ordS r.visits:Nat):Int) 63,0<=i/\i<(x.orders.length:Int):=fun i hi=>by
  rw [Zil hsq.inr hol] at hi
  grind
 have cs:=pY x ((ordS r.visits:Nat):Int) (dimsOf x.types).toNat (by have:=hd.dim;omega) Za hmem (Ex _ _) (fun o ho=>by have:=hd.load o ho;grind);rw [hst] at cs;refine Ze [20] Tryz.func265 rfl ZaE ?_;simp (disch:=omega) only [Tryz.f265,go_sem,seval];refine (gG x r hx hl).use (X8 ?_);simp (disch:=omega) only [h0,go_sem,seval];refine X6 hso (X8 ?_);refine Z6 (X8 ?_);refine Zq (cd) (X8 ?_);refine Zq (cs) (X8 ?_);refine ZI [20] [2,37,38] (fun q:Nat×List (List Int)=> [(9,.p (.list false ((Y9 x r.visits q.1).map eI))),(10,.sl 2 0 q.2.length q.2.length),(39,.p (.int .i64 q.1))]) (fun q=> [Zg x,ZK r,.elems 1 (q.2.map kB)]) (fun q=>q.1<=r.visits.length/\q.2=(List.range (q.1+1)).map (Y9 x r.visits)) (fun q=>r.visits.length-q.1) (0,[Y9 x r.visits 0]) Zb (Weak.mk ?_) ?_
 ·simp (disch:=omega) only [Zg,ZK,Zk,Zu,ZH,Zs,go_sem,seval]
 ·rintro ⟨k,o⟩ ⟨hk,ho⟩;simp only at hk ho
  have hol2:o.length=k+1:=by rw [ho];simp
  refine E9 ?_;refine cD ?_ ?_<;>intro h1<;>simp (disch:=omega) only [Sh.out h1,go_sem,seval,↓reduceIte]
  ·have hk2:k<r.visits.length:=Za
   obtain ⟨v1,v2⟩:=hsq.inr _ (Zn hk2)
   have hi:(nth r.visits k).order.toNat<x.orders.length:=Za
   obtain ⟨l1,l2⟩:=hd.load _ (ZN hi);have hsu:=Rg hsq hk2;have hal:=DR (x:=x) (l:=r.visits) (n:=k);have hdm:=hd.dim
   have hrg: ∀j,j<(Y9 x r.visits k).length-> -1073741824<=nth (Y9 x r.visits k) j/\nth (Y9 x r.visits k) j<=1073741824/\ -1073741824<=nth (nth x.orders (nth r.visits k).order.toNat).load j/\nth (nth x.orders (nth r.visits k).order.toNat).load j<=1073741824:=fun j hj=>by
    have b1:=TW (x:=x) (l:=r.visits) (n:=k) (j:=j) Za hd
    grind [ZN]
   refine cD ?_ ?_<;>intro h2<;>simp (disch:=omega) only [Sh.out h2,go_sem,seval,↓reduceIte]
   ·rw [if_pos h2] at hsu;refine X6 (ZbV (Y9 x r.visits k) (nth x.orders (nth r.visits k).order.toNat).load false (nth x.orders (nth r.visits k).order.toNat).load_c Za Za hrg) (X8 ?_);exact ⟨(k+1,o++ [Y9 x r.visits (k+1)]),⟨Za,by grind⟩,Za,Weak.mk (by simp (disch:=omega) only [hsu,ZQ,Zs,ZH,Xm,Zu,Zk,go_sem,seval])⟩
   ·rw [if_neg (by rw [h2];simp)] at hsu;refine X6 (fZ (Y9 x r.visits k) (nth x.orders (nth r.visits k).order.toNat).load false (nth x.orders (nth r.visits k).order.toNat).load_c Za Za hrg) (X8 ?_);exact ⟨(k+1,o++ [Y9 x r.visits (k+1)]),⟨Za,by grind⟩,Za,Weak.mk (by simp (disch:=omega) only [hsu,ZQ,Zs,ZH,Xm,Zu,Zk,go_sem,seval])⟩
  ·have hkl:k=r.visits.length:=Za
   subst hkl;refine Zp (Weak.fz (o:=2) (by rfl)) (Zf [] _ _ _ _ (V4 ?_));rw [UT,<- ho];exact we
theorem nJ (x:Inst) (r:Rte) (a:List Int) (htl:x.types.length<=1048576) (hty:0<=r.typ/\r.typ<(x.types.length:Int)) (ha:a.length<=1048576) (hc:(ZX x r).cap.length<=1048576) :
  ACalls Tryz.prog 267 [.p (kB a),.ptr 0 0,.ptr 1 0] [Zg x,ZK r] fun y H'=>y= .p (.bool (!UK a (ZX x r).cap))/\H'= [Zg x,ZK r]:=by
 have hti:r.typ.toNat<x.types.length:=Za
 refine Ze [] Tryz.func267 rfl ZaG ?_;simp (disch:=omega) only [Tryz.f267,Zg,ZK,go_sem,seval];refine (oW a (ZX x r).cap false (ZX x r).cap_c ha hc).use (X8 ?_);exact we
theorem gA (x:Inst) (r:Rte) (hx:InstOk x) (hl:r.visits.length<=1048576) (hty:0<=r.typ/\r.typ<(x.types.length:Int)) (h0:Xr x r.visits=0) :
  PC 220 [.p (Zv x),.p (Z0 r)] (.int .i64 (if US x (ZX x r).cap r.visits=true then 0 else 17)):=by
 have hd:=UM hx;have htl:=hd.typ
 have hti:r.typ.toNat<x.types.length:=Za
 have hcp:(ZX x r).cap.length<=1048576:=by
  have hcap:=hx.types.2 _ hti;unfold Az at hcap;obtain ⟨⟨⟨⟨⟨⟨⟨⟨_,_⟩,_⟩,_⟩,hcap⟩,_⟩,_⟩,_⟩,_⟩:=hcap;simp only [Uk,ZG,Zr,rng] at hcap;unfold ZX;omega
 have hll:(UT x r.visits).length=r.visits.length+1:=by simp [UT]
 have hvl:=(VD h0).len hd.ord
 have YB:(UT x r.visits).any (fun a=> !UK a (ZX x r).cap)= !US x (ZX x r).cap r.visits:=by
  grind [US,UT]
 have e1: ¬r.typ<0:=Za
 have e2: ¬(x.types.length:Int)<=r.typ:=Za
 refine Zc Tryz.func220 rfl Zaa ?_;simp (disch:=omega) only [Tryz.f220,e1,e2,go_sem,seval];refine X6 (gC x r hx hl h0) (X8 ?_);refine (HC (UT x r.visits) false 267 [.ptr 0 0,.ptr 1 0] [Zg x,ZK r] (fun a=> !UK a (ZX x r).cap) Za (by simp (disch:=omega) only [Zg,ZK,go_sem,seval]) (by rfl) (fun a ha=>nJ x r a htl hty ?_ hcp)).useH ?_
 ·obtain ⟨j,_,rfl⟩:=Ww.1 ha;rw [DR];have:=hd.dim;omega
 ·refine E9 ?_;rw [YB];refine cD ?_ ?_<;>intro h1<;>simp (disch:=omega) only [Sh.out h1,go_sem,seval]
  ·grind
  grind
set_option maxRecDepth 60000
def Df (x:Inst) (o n:Nat):List V:= [.p (.list x.net.places_c (x.net.places.map eS)),.p (.list x.net.arcs_c (x.net.arcs.map Wj)),.p (.list x.types_c (x.types.map Y5)),.sl o 0 n n,.p (.list x.apart_c (x.apart.map eP)),.p (.list x.before_c (x.before.map eP))]
theorem Cs {β:Type} [Inhabited β] {a b:List β} (hl:a.length=b.length) (h: ∀j,j<a.length->nth a j=nth b j):a=b:=by
 grind [UN,Zj]
def BS (a b:Rte):Bool:=decide (a.typ=b.typ)&&(decide (a.start=b.start)&&(decide (a.rests=b.rests)&&decide (a.visits=b.visits)))
def GR (p q:Pln):Bool:=(decide (p.routes.length=q.routes.length)&&(List.range p.routes.length).all fun k=>BS (nth p.routes k) (nth q.routes k))&&decide (p.unserved=q.unserved)
theorem CH {a b:Rte} :BS a b=true↔a.typ=b.typ/\a.start=b.start/\a.rests=b.rests/\a.visits=b.visits:=by
 simp [BS]
theorem FI (a b:Rte) (ha:AK a) (hb:AK b):PC 41 [.p (Z0 a),.p (Z0 b)] (.bool (BS a b)):=by
 obtain ⟨a1,a2⟩:=ha;obtain ⟨b1,b2⟩:=hb
 have no:(a.typ=b.typ/\a.start=b.start/\a.rests=b.rests/\a.visits=b.visits->False)->BS a b=false:=fun h=>by
  grind [CH]
 refine Zc Tryz.func41 rfl Zhv ?_;simp (disch:=omega) only [Tryz.f41,go_sem,seval];refine gF ?_ ?_<;>intro h1<;>simp (disch:=omega) only [Sh.out h1,go_sem,seval,↓reduceIte]
 ·grind
 ·refine gF ?_ ?_<;>intro h2<;>simp (disch:=omega) only [Sh.out h2,go_sem,seval,↓reduceIte]
  ·grind
  ·refine gF ?_ ?_<;>intro h3<;>simp (disch:=omega) only [Sh.out h3,go_sem,seval,↓reduceIte]
   ·grind
   ·refine cD ?_ ?_<;>intro h4<;>simp (disch:=omega) only [Sh.out h4,go_sem,seval]
    ·grind
    ·have l1:a.rests.length=b.rests.length:=Za
     have l2:a.visits.length=b.visits.length:=Za
     refine Zi [2,3] (fun k:Nat=> [(5,.p (.int .i64 k))]) (fun _=> [ZK a,ZK b]) (fun k=>k<=a.rests.length/\ ∀j,j<k->nth a.rests j=nth b.rests j) (fun k=>a.rests.length-k) 0 Zb (Weak.mk ?_) ?_
     ·simp (disch:=omega) only [ZK,go_sem,seval]
     ·rintro k ⟨hk,hno⟩;refine Zip ?_;refine cD ?_ ?_<;>intro h5<;>simp (disch:=omega) only [Sh.out h5,go_sem,seval,↓reduceIte]
      ·have hk2:k<a.rests.length:=Za
       refine Z6 (X8 ?_);refine ZB ?_ ?_<;>intro h6
       ·grind
       ·exact ⟨k+1,⟨Za,Zm.2 ⟨hno,by grind⟩⟩,Za,wk⟩
      ·have e1:a.rests=b.rests:=Cs l1 fun j hj=>hno j Za;refine Zi [2,3] (fun k:Nat=> [(6,.p (.int .i64 k))]) (fun _=> [ZK a,ZK b]) (fun k=>k<=a.visits.length/\ ∀j,j<k->nth a.visits j=nth b.visits j) (fun k=>a.visits.length-k) 0 Zb (Weak.mk ?_) ?_
       ·simp (disch:=omega) only [ZK,go_sem,seval]
       ·rintro k ⟨hk,hno2⟩;refine Zip ?_;refine cD ?_ ?_<;>intro h7<;>simp (disch:=omega) only [Sh.out h7,go_sem,seval,↓reduceIte]
        ·have hk2:k<a.visits.length:=Za
         refine Z6 (X8 ?_);refine ZB ?_ ?_<;>intro h8
         ·grind
         ·exact ⟨k+1,⟨Za,Zm.2 ⟨hno2,AR.2 (by grind)⟩⟩,Za,wk⟩
        grind [CH,Cs]
theorem BR {p q:Pln} (h:(p.routes.length=q.routes.length/\(∀k,k<p.routes.length->BS (nth p.routes k) (nth q.routes k)=true)/\p.unserved=q.unserved)->False):GR p q=false:=by
 simp_all [GR]
theorem GS {p q:Pln} (h1:p.routes.length=q.routes.length) (h2: ∀k,k<p.routes.length->BS (nth p.routes k) (nth q.routes k)=true) (h3:p.unserved=q.unserved):GR p q=true:=by
 simp_all [GR]
theorem Ks {P Q:Prop} (h:Q) (e:Q->P:=by intro h;simp (disch:=omega) only [X1,go_sem,seval];exact h):P:=e h
theorem iN (p q:Pln) (hp:p.routes.length<=1048576/\p.unserved.length<=1048576/\ ∀r∈p.routes,AK r) (hq:q.routes.length<=1048576/\q.unserved.length<=1048576/\ ∀r∈q.routes,AK r) :
  PC 13 [.p (Wk p),.p (Wk q)] (.bool (GR p q)):=by
 have p1:=hp.1;have p2:=hp.2.1;refine Zc Tryz.func13 rfl Zhj ?_;simp (disch:=omega) only [Tryz.f13,go_sem,seval];refine gF ?_ ?_<;>intro h1<;>simp (disch:=omega) only [Sh.out h1,go_sem,seval,↓reduceIte]
 ·grind [BR]
 ·refine cD ?_ ?_<;>intro h2<;>simp (disch:=omega) only [Sh.out h2,go_sem,seval]
  ·grind [BR]
  ·have l1:p.routes.length=q.routes.length:=Za
   have l2:p.unserved.length=q.unserved.length:=Za
   refine Zi [2,3] (fun k:Nat=> [(5,.p (.int .i64 k))]) (fun _=> [Xe p,Xe q]) (fun k=>k<=p.routes.length/\ ∀j,j<k->BS (nth p.routes j) (nth q.routes j)=true) (fun k=>p.routes.length-k) 0 Zb (Weak.mk ?_) ?_
   ·simp (disch:=omega) only [Xe,go_sem,seval]
   ·rintro k ⟨hk,hno⟩;refine Zb7 ?_;refine cD ?_ ?_<;>intro h5<;>simp (disch:=omega) only [Sh.out h5,go_sem,seval,↓reduceIte]
    ·have hk2:k<p.routes.length:=Za
     refine Z6 (X8 ?_);refine Zq (FI (nth p.routes k) (nth q.routes k) (hp.2.2 _ (ZN hk2)) (hq.2.2 _ (ZN Za))) (X8 ?_)
     cases hs:BS (nth p.routes k) (nth q.routes k) with
     | false =>
      rw [BR fun h=>by grind];simp (disch:=omega) only [Jt,go_sem,seval]
     | true =>
      refine Ks ?_;exact ⟨k+1,⟨Za,Zm.2 ⟨hno,hs⟩⟩,Za,wk⟩
    ·refine Zi [2,3] (fun k:Nat=> [(6,.p (.int .i64 k))]) (fun _=> [Xe p,Xe q]) (fun k=>k<=p.unserved.length/\ ∀j,j<k->nth p.unserved j=nth q.unserved j) (fun k=>p.unserved.length-k) 0 Zb (Weak.mk ?_) ?_
     ·simp (disch:=omega) only [Xe,go_sem,seval]
     ·rintro i ⟨hi,hno2⟩;refine Zb7 ?_;refine cD ?_ ?_<;>intro h7<;>simp (disch:=omega) only [Sh.out h7,go_sem,seval,↓reduceIte]
      ·have hk2:i<p.unserved.length:=Za
       refine Z6 (X8 ?_);refine ZB ?_ ?_<;>intro h8
       ·grind [BR]
       ·exact ⟨i+1,⟨Za,Zm.2 ⟨hno2,Za⟩⟩,Za,wk⟩
      grind [GS,Cs]
theorem EM (l:List Pt) (c d:Bool) (hl:l.length<=1048576):PC 84 [.p (.list c (l.map Fk)),.p (.list d (l.map Fk))] (.bool true):=by
 refine Zc Tryz.func84 rfl ZhW ?_;simp (disch:=omega) only [Tryz.f84,go_sem,seval];refine Zi [0,1] (fun k:Nat=> [(5,.p (.int .i64 k))]) (fun _=> []) (fun k=>k<=l.length) (fun k=>l.length-k) 0 Zb (Weak.mk ?_) ?_
 ·simp (disch:=omega) only [go_sem,seval,↓reduceIte]
 ·intro k hk;refine X8 ?_;refine cD ?_ ?_<;>intro h<;>simp (disch:=omega) only [Sh.out h,go_sem,seval,↓reduceIte]
  ·have hk2:k<l.length:=Za
   refine Z6 (X8 ?_);exact ⟨k+1,Za,Za,wk⟩
theorem GF (l:List (Int×Int)) (c d:Bool) (hl:l.length<=1048576):PC 45 [.p (.list c (l.map eP)),.p (.list d (l.map eP))] (.bool true):=by
 refine Zc Tryz.func45 rfl Zhz ?_;simp (disch:=omega) only [Tryz.f45,go_sem,seval];refine Zi [0,1] (fun k:Nat=> [(5,.p (.int .i64 k))]) (fun _=> []) (fun k=>k<=l.length) (fun k=>l.length-k) 0 Zb (Weak.mk ?_) ?_
 ·simp (disch:=omega) only [go_sem,seval,↓reduceIte]
 ·intro k hk;refine X8 ?_;refine cD ?_ ?_<;>intro h<;>simp (disch:=omega) only [Sh.out h,go_sem,seval,↓reduceIte]
  ·have hk2:k<l.length:=Za
   refine Z6 (X8 ?_);exact ⟨k+1,Za,Za,wk⟩
theorem S9 (l:List Int) (c d:Bool) (hl:l.length<=1048576):PC 85 [.p (.list c (l.map eI)),.p (.list d (l.map eI))] (.bool true):=by
 refine Zc Tryz.func85 rfl ZhX ?_;simp (disch:=omega) only [Tryz.f85,go_sem,seval];refine Zi [0,1] (fun k:Nat=> [(5,.p (.int .i64 k))]) (fun _=> []) (fun k=>k<=l.length) (fun k=>l.length-k) 0 Zb (Weak.mk ?_) ?_
 ·simp (disch:=omega) only [go_sem,seval,↓reduceIte]
 ·intro k hk;refine X8 ?_;refine cD ?_ ?_<;>intro h<;>simp (disch:=omega) only [Sh.out h,go_sem,seval,↓reduceIte]
  ·have hk2:k<l.length:=Za
   refine Z6 (X8 ?_);exact ⟨k+1,Za,Za,wk⟩
theorem iK (t:Typ) (c d:Bool) (hl:t.cap.length<=1048576):PC 43 [.p (Y5 { t with cap_c:=c }),.p (Y5 { t with cap_c:=d })] (.bool true):=by
 refine Zc Tryz.func43 rfl Zhx ?_;simp (disch:=omega) only [Tryz.f43,go_sem,seval];refine ZI [8] [2,3] (fun k:Nat=> [(5,.p (.int .i64 k))]) (fun _=> [X2 { t with cap_c:=c },X2 { t with cap_c:=d }]) (fun k=>k<=t.cap.length) (fun k=>t.cap.length-k) 0 Zb (Weak.mk ?_) ?_
 ·simp (disch:=omega) only [X2,go_sem,seval]
 ·intro k hk;simp (disch:=omega) only [X2,go_sem,seval];refine cD ?_ ?_<;>intro h<;>simp (maxSteps:=3000000) (disch:=omega) only [Sh.out h,go_sem,seval,↓reduceIte]
  ·have hk2:k<t.cap.length:=Za
   refine Z6 (X8 ?_);exact ⟨k+1,Za,Za,wk⟩
theorem iL (o:Ord) (hl:o.load.length<=1048576):PC 44 [.p (eOrd o),.p (eOrd o)] (.bool true):=by
 refine Zc Tryz.func44 rfl Zhy ?_;simp (maxSteps:=3000000) (disch:=omega) only [Tryz.f44,go_sem,seval,↓reduceIte];refine (S9 o.load o.load_c o.load_c hl).use ?_;simp (maxSteps:=3000000) (disch:=omega) only [go_sem,seval,↓reduceIte]
theorem eZ (n:Net) (hw:n.wf 1048576):PC 42 [.p (Al n),.p (Al n)] (.bool true):=by
 have hp:=hw.1;have ha:=hw.2.2.1;have haw:=hw.2.2.2;refine Zc Tryz.func42 rfl Zhw ?_;simp (disch:=omega) only [Tryz.f42,go_sem,seval];refine Zi [2,3] (fun k:Nat=> [(5,.p (.int .i64 k))]) (fun _=>ZU n++ZU n) (fun k=>k<=n.places.length) (fun k=>n.places.length-k) 0 Zb (Weak.mk ?_) ?_
 ·simp (disch:=omega) only [ZU,Xu,ZF,go_sem,seval]
 ·intro k hk;simp (disch:=omega) only [ZU,Xu,ZF,go_sem,seval];refine cD ?_ ?_<;>intro h<;>simp (disch:=omega) only [Sh.out h,go_sem,seval,↓reduceIte]
  ·have hk2:k<n.places.length:=Za
   refine Z6 (X8 ?_);exact ⟨k+1,Za,Za,wk⟩
  ·have hkl:k=n.places.length:=Za
   subst hkl;clear hk h;refine Zi [2,3] (fun k:Nat=> [(6,.p (.int .i64 k))]) (fun _=>ZU n++ZU n) (fun k=>k<=n.arcs.length) (fun k=>n.arcs.length-k) 0 Zb (Weak.mk ?_) ?_
   ·simp (disch:=omega) only [ZU,Xu,ZF,go_sem,seval]
   ·intro k hk;simp (disch:=omega) only [ZU,Xu,ZF,go_sem,seval];refine cD ?_ ?_<;>intro h<;>simp (disch:=omega) only [Sh.out h,go_sem,seval,↓reduceIte]
    ·have hk2:k<n.arcs.length:=Za
     have hak:=haw _ (Zn hk2);have ht:(nth n.arcs k).travel.length<=1048576:=hak.2.2.2.2.1;have hs:(nth n.arcs k).slow.length<=1048576:=hak.2.2.2.2.2.2.1;refine (EM (nth n.arcs k).travel (nth n.arcs k).travel_c (nth n.arcs k).travel_c ht).use (X8 ?_);refine (EM (nth n.arcs k).slow (nth n.arcs k).slow_c (nth n.arcs k).slow_c hs).use (X8 ?_);exact ⟨k+1,Za,Za,wk⟩
theorem iM (n:Net) (ts us:List Typ) (os:List Ord) (ap be:List (Int×Int)) (c1 c2 c3 c4 d1 d2 d3 d4:Bool) (hn:n.wf 1048576) (htl:ts.length=us.length) (hts: ∀k,k<ts.length->(∃c,nth ts k= { nth us k with cap_c:=c })/\(nth us k).cap.length<=1048576)
  (hl:us.length<=1048576) (ho:os.length<=1048576) (how: ∀o∈os,o.load.length<=1048576) (ha:ap.length<=1048576) (hb:be.length<=1048576) :
  PC 14 [.p (Zv ⟨n,c1,ts,c2,os,c3,ap,c4,be⟩),.p (Zv ⟨n,d1,us,d2,os,d3,ap,d4,be⟩)] (.bool true):=by
 refine Zc Tryz.func14 rfl Zhk ?_;simp (disch:=omega) only [Tryz.f14,go_sem,seval];refine (eZ n hn).use (X8 ?_);simp (disch:=omega) only [htl,go_sem,seval];refine Zi [2,3] (fun k:Nat=> [(5,.p (.int .i64 k))]) (fun _=> [Zg ⟨n,c1,ts,c2,os,c3,ap,c4,be⟩,Zg ⟨n,d1,us,d2,os,d3,ap,d4,be⟩]) (fun k=>k<=ts.length) (fun k=>ts.length-k) 0 Zb (Weak.mk ?_) ?_
 ·simp (disch:=omega) only [Zg,go_sem,seval]
 ·intro k hk;refine Yi ?_;refine cD ?_ ?_<;>intro h<;>simp (disch:=omega) only [Sh.out h,go_sem,seval,↓reduceIte]
  ·have hk2:k<ts.length:=Za
   obtain ⟨⟨c,e⟩,hcl⟩:=hts k hk2;have c10:=iK (nth us k) c (nth us k).cap_c hcl;rw [<- e] at c10;refine Z6 (X8 ?_);refine Zq (c10) (X8 ?_);exact ⟨k+1,Za,Za,wk⟩
  ·refine Zi [2,3] (fun k:Nat=> [(6,.p (.int .i64 k))]) (fun _=> [Zg ⟨n,c1,ts,c2,os,c3,ap,c4,be⟩,Zg ⟨n,d1,us,d2,os,d3,ap,d4,be⟩]) (fun k=>k<=os.length) (fun k=>os.length-k) 0 Zb (Weak.mk ?_) ?_
   ·simp (disch:=omega) only [Zg,go_sem,seval]
   ·intro k hk;refine Yi ?_;refine cD ?_ ?_<;>intro h<;>simp (disch:=omega) only [Sh.out h,go_sem,seval,↓reduceIte]
    ·have hk2:k<os.length:=Za
     refine Z6 (X8 ?_);refine Zq (iL (nth os k) (how _ (Zn hk2))) (X8 ?_);exact ⟨k+1,Za,Za,wk⟩
    ·refine (GF ap c3 d3 ha).use (X8 ?_);refine (GF be c4 d4 hb).use ?_;simp (disch:=omega) only [go_sem,seval,↓reduceIte]
theorem iO (x:Inst) (hw:x.wf 1048576):PC 14 [.p (Zv x),.p (Zv x)] (.bool true):=by
 obtain ⟨w1,w2,w3,w4,w5,w6,w7,w8,w9⟩:=hw;exact iM x.net x.types x.types x.orders x.apart x.before x.types_c x.orders_c x.apart_c x.before_c x.types_c x.orders_c x.apart_c x.before_c w1 rfl (fun k hk=>⟨⟨_,rfl⟩,(w3 _ (Zn hk)).2.2.2.2.1⟩) w2 w4 (fun o ho=>(w5 o ho).2.1) w6 w8
theorem Zkg : zeroI.wf 1048576:=by
 refine ⟨⟨by simp [zeroI],by simp [zeroI],by simp [zeroI],by simp [zeroI]⟩,by simp [zeroI],by simp [zeroI],by simp [zeroI],by simp [zeroI],by simp [zeroI],by simp [zeroI],by simp [zeroI],by simp [zeroI]⟩
def Lo (x:Inst) (t:Typ) (r:Rte) (c:Bool) (sp:List Stp):PV:= .agg [.list x.net.places_c (x.net.places.map eS),.list x.net.arcs_c (x.net.arcs.map Wj),.list x.types_c (x.types.map Y5),.list x.orders_c (x.orders.map eOrd),.list x.apart_c (x.apart.map eP),.list x.before_c (x.before.map eP),.str t.name,.int .i64 t.count,.int .i64 t.src,.int .i64 t.dst,.list t.cap_c (t.cap.map eI),.int .i64 t.skills,.int .i64 t.prof,.int .i64 t.opn,.int .i64 t.cls,.int .i64 t.drive,.int .i64 t.rest,.int .i64 t.fixed,.int .i64 t.perMile,.int .i64 t.perTick,.int .i64 r.typ,.int .i64 r.start,.list r.rests_c (r.rests.map eB),.list r.visits_c (r.visits.map ZS),.list c (sp.map HF)]
@[go_sem] theorem ZkG (x:Inst) (t:Typ) (r:Rte) (c:Bool) (sp:List Stp):Lo x t r c sp= .agg [.list x.net.places_c (x.net.places.map eS),.list x.net.arcs_c (x.net.arcs.map Wj),.list x.types_c (x.types.map Y5),.list x.orders_c (x.orders.map eOrd),.list x.apart_c (x.apart.map eP),.list x.before_c (x.before.map eP),.str t.name,.int .i64 t.count,.int .i64 t.src,.int .i64 t.dst,.list t.cap_c (t.cap.map eI),.int .i64 t.skills,.int .i64 t.prof,.int .i64 t.opn,.int .i64 t.cls,.int .i64 t.drive,.int .i64 t.rest,.int .i64 t.fixed,.int .i64 t.perMile,.int .i64 t.perTick,.int .i64 r.typ,.int .i64 r.start,.list r.rests_c (r.rests.map eB),.list r.visits_c (r.visits.map ZS),.list c (sp.map HF)]:=ZP rfl rfl
def Zcl (x:Inst) (t:Typ) (r:Rte):List V:= [.p (.list x.net.places_c (x.net.places.map eS)),.p (.list x.net.arcs_c (x.net.arcs.map Wj)),.p (.list x.types_c (x.types.map Y5)),.p (.list x.orders_c (x.orders.map eOrd)),.p (.list x.apart_c (x.apart.map eP)),.p (.list x.before_c (x.before.map eP)),.p (.str t.name),.p (.int .i64 t.count),.p (.int .i64 t.src),.p (.int .i64 t.dst),.p (.list t.cap_c (t.cap.map eI)),.p (.int .i64 t.skills),.p (.int .i64 t.prof),.p (.int .i64 t.opn),.p (.int .i64 t.cls),.p (.int .i64 t.drive),.p (.int .i64 t.rest),.p (.int .i64 t.fixed),.p (.int .i64 t.perMile),.p (.int .i64 t.perTick),.p (.int .i64 r.typ),.p (.int .i64 r.start),.p (.list r.rests_c (r.rests.map eB)),.p (.list r.visits_c (r.visits.map ZS))]
def YP (x:Inst) (t:Typ) (r:Rte) (c:Bool) (sp:List Stp):AM.Obj:= .cells [.p (.list x.net.places_c (x.net.places.map eS)),.p (.list x.net.arcs_c (x.net.arcs.map Wj)),.p (.list x.types_c (x.types.map Y5)),.p (.list x.orders_c (x.orders.map eOrd)),.p (.list x.apart_c (x.apart.map eP)),.p (.list x.before_c (x.before.map eP)),.p (.str t.name),.p (.int .i64 t.count),.p (.int .i64 t.src),.p (.int .i64 t.dst),.p (.list t.cap_c (t.cap.map eI)),.p (.int .i64 t.skills),.p (.int .i64 t.prof),.p (.int .i64 t.opn),.p (.int .i64 t.cls),.p (.int .i64 t.drive),.p (.int .i64 t.rest),.p (.int .i64 t.fixed),.p (.int .i64 t.perMile),.p (.int .i64 t.perTick),.p (.int .i64 r.typ),.p (.int .i64 r.start),.p (.list r.rests_c (r.rests.map eB)),.p (.list r.visits_c (r.visits.map ZS)),.p (.list c (sp.map HF))]
def Zcu : AM.Obj:= .cells [.p (.list true []),.p (.list true []),.p (.list true []),.p (.list true []),.p (.list true []),.p (.list true []),.p (.str []),.p (.int .i64 0),.p (.int .i64 0),.p (.int .i64 0),.p (.list true []),.p (.int .i64 0),.p (.int .i64 0),.p (.int .i64 0),.p (.int .i64 0),.p (.int .i64 0),.p (.int .i64 0),.p (.int .i64 0),.p (.int .i64 0),.p (.int .i64 0),.p (.int .i64 0),.p (.int .i64 0),.p (.list true []),.p (.list true []),.p (.list true [])]
def Jf (L:Lab):PV:= .agg [.int .i64 L.ready,.int .i64 L.since,.bool L.she.rest,.int .i64 L.she.dep,.list L.she.times_c (L.she.times.map eTim),.int .i64 L.she.fin,.int .i64 L.she.miles]
@[go_sem] theorem Zkx (L:Lab):Jf L= .agg [.int .i64 L.ready,.int .i64 L.since,.bool L.she.rest,.int .i64 L.she.dep,.list L.she.times_c (L.she.times.map eTim),.int .i64 L.she.fin,.int .i64 L.she.miles]:=ZP rfl rfl
@[go_sem] theorem Zc0 (l:List Lab):DU 7 (l.map Jf)=true:=AY (f:=Jf) (S:=7) (fun _=>rfl) l
def Wt (L:Lab):AM.Obj:= .cells [.p (.int .i64 L.ready),.p (.int .i64 L.since),.p (.bool L.she.rest),.p (.int .i64 L.she.dep),.p (.list L.she.times_c (L.she.times.map eTim)),.p (.int .i64 L.she.fin),.p (.int .i64 L.she.miles)]
theorem bA (l:List Tim) (c:Bool) (hl:l.length<=1048576):ACalls Tryz.prog 312 [.p (.list c (l.map eTim))] [] fun x H'=>x= .sl 0 0 l.length l.length/\H'= [.elems 4 (l.map eTim)]:=by
 suffices hh:ACalls Tryz.prog 312 [.p (.list c (l.map eTim))] [] fun x H'=> ∃m:List Tim,m=l/\x= .sl 0 0 m.length m.length/\H'= [.elems 4 (m.map eTim)] by
  grind
 refine Ze [1] Tryz.func312 rfl Zbh ?_;simp (disch:=omega) only [Tryz.f312,go_sem,seval];refine VC (VC (lQ 1 rfl rfl ?_));refine ⟨_,PI (e:=178) rfl Tryz.underlying93 rfl (fun _=>rfl),?_⟩;rintro _ ⟨b,rfl,hb⟩;refine X8 ?_;refine Zf [] _ _ _ _ ?_
 cases b with
 | true =>
  have hn:l= []:=by simp_all
  subst hn;refine X8 ?_;exact ⟨_,_,Weak.ofNil 0 4 rfl Zb (wk),[],rfl,rfl,rfl⟩
 | false =>
  refine X8 ?_;refine Zf [] _ _ _ _ (X8 ?_);exact ⟨.sl 0 0 l.length l.length,[.elems 4 (l.map eTim)],wk,l,rfl,rfl,rfl⟩
theorem F1 (x:Inst) (t:Typ) (r:Rte) (c:Bool) (sp:List Stp):PC 270 [.p (Lo x t r c sp)] (Jf (XB t r.start)):=by
 refine Ze [] Tryz.func270 rfl ZaI ?_;simp (disch:=omega) only [Tryz.f270,go_sem,seval];exact we (by simp (disch:=omega) only [XB,zShe,Zk,go_sem,seval])
theorem gS (x:Inst) (t:Typ) (r:Rte) (c:Bool) (sp:List Stp) (k:Nat) (hk:k<=sp.length) (hl:sp.length<=1048576):PC 313 [.p (Lo x t r c sp),.p (.int .i64 (k:Nat))] (.int .i64 (JM t sp k)):=by
 refine Zc Tryz.func313 rfl Zbi ?_;simp (disch:=omega) only [Tryz.f313,go_sem,seval];refine cD ?_ ?_<;>intro h<;>simp (disch:=omega) only [Sh.out h,go_sem,seval,↓reduceIte]
 ·simp_all [JM]
 simp_all [JM]
theorem ZbX (x:Inst) (r:Rte) (hx:InstOk x) (hty:0<=r.typ/\r.typ<(x.types.length:Int)) (h0:Xr x r.visits=0) (hs:0<=r.start/\r.start<=4096) :
  PT 269 [.p (Zv x),.p (Z0 r)] [.p (Lo x (ZX x r) r false (Xw x r.visits)),.p (.bool true)]:=by
 have hd:=UM hx;have hsq:=VD h0;have hol:=hd.ord;have htl:=hd.typ;have hvl:=hsq.len hol
 have e1: ¬r.typ<0:=Za
 have e2: ¬(x.types.length:Int)<=r.typ:=Za
 have e3: ¬r.start<0:=Za
 have e4: ¬ 4096<r.start:=Za
 have e5: ¬ 20<(r.visits.length:Int):=Za
 refine Ze [12] Tryz.func269 rfl dO ?_;simp (disch:=omega) only [Tryz.f269,e1,e2,e3,e4,e5,go_sem,seval];refine Xo [9] 10 mixed Zd Zd Zd Zb (X8 ?_);refine ZV 9 _ _ Zd (by refine X8 ?_;exact ⟨rfl,rfl⟩) (Yo ?_);refine X8 ?_
 refine ZI [12] [2,4,6,49,50] (fun q:Nat×List Stp=> [(51,.p (.int .i64 q.1))])
  (fun q=> [Zg x,ZK r,Zcu,.cells (Zcl x (ZX x r) r++ [.sl 4 0 q.2.length q.2.length]),.elems 4 (q.2.map HF)])
  (fun q=>q.1<=r.visits.length/\q.2=(Xw x r.visits).take q.1) (fun q=>r.visits.length-q.1) (0,[]) Zb ((Weak.nilC (o:=3) (j:=24) 4 rfl rfl Zb).trans (Weak.mk ?_)) ?_
 ·simp (disch:=omega) only [Zg,ZK,Zcu,Zcl,ZX,Zk,ZH,X7,Z9,Xu,ZF,go_sem,seval]
 ·rintro ⟨k,o⟩ ⟨hk,ho⟩;simp only at hk ho
  have hol2:o.length=k:=by grind [Yg]
  simp (disch:=omega) only [Zg,ZK,Zcu,Zcl,go_sem,seval];refine cD ?_ ?_<;>intro h1<;>simp (disch:=omega) only [Sh.out h1,go_sem,seval,↓reduceIte]
  ·have hk2:k<r.visits.length:=Za
   have hvis:=hsq.vis (Zn hk2);simp only [Ky,ZG,Zr] at hvis
   have hsn:o++ [stopV x (nth r.visits k)]=(Xw x r.visits).take (k+1):=by
    rw [ho,Zx (by grind [Yg]),<- Zj,E8 hk2]
   have hnp: ¬(stopV x (nth r.visits k)).place<0:=Za
   refine X6 (oX x (nth r.visits k) Za hvis.1 hvis.2) ?_;simp (disch:=omega) only [hnp,go_sem,seval];exact ⟨(k+1,o++ [stopV x (nth r.visits k)]),⟨Za,hsn⟩,Za,Weak.mk (by simp (disch:=omega) only [ZQ,Zs,ZH,Xm,Zu,Zk,go_sem,seval])⟩
  ·have hkl:k=r.visits.length:=Za
   subst hkl
   have hso:o=Xw x r.visits:=by grind [Yg]
   subst hso;refine Zp (Weak.fz (o:=4) (by rfl)) (Zf [] _ _ _ _ (V4 ?_));exact we
def My (rd sn:Int) (m:She):AM.Obj:= .cells [.p (.int .i64 rd),.p (.int .i64 sn),.p (.bool m.rest),.p (.int .i64 m.dep),.sl 4 0 m.times.length m.times.length,.p (.int .i64 m.fin),.p (.int .i64 m.miles)]
theorem Nx {P:Program} {H:List AM.Obj} {f ars} {a b d:PV} {B:V->Prop} {t} (h:ACalls P f ars [] fun x H'=>x= .tup [.p a,.p b,.p d]/\H'= []) (k:B (.tup [.p a,.p b,.p d])) (ha:Xf 0 ars=true:=by rfl) :
  RT (fun y=>ACalls P f ars H (Zy (Zy (fun x H'=>x=y/\H'=H) ⟨⟩) ⟨⟩)) (Zy B t) :=
 ⟨.tup [.p a,.p b,.p d],(h.behind ha H).mono fun x H' hq=>by
  obtain ⟨y,H1,⟨rfl,rfl⟩,rfl,rfl⟩:=hq
  simp [shV,shVs,Zy],k⟩
theorem ZbK (x:Inst) (t:Typ) (r:Rte) (c:Bool) (sp:List Stp) (hok:TrpOk x t sp) (k:Nat) (hk:k<=sp.length) (hs1:0<sp.length) (L:Lab) (hL:LabR k L) (hlen:L.she.times.length=k) (hclip:0<k->L.she.times_c=false) (b:Bool) :
  PT 295 [.p (Lo x t r c sp),.p (Jf L),.p (.int .i64 (k:Nat)),.p (.bool b)] [.p (Jf (Yk x t sp k L b).1),.p (.int .i64 (Yk x t sp k L b).2)]:=by
 have hd:=JV hok hL b;have hsn:=E7 hL b;have hg:=HN hok hL b;have hmi:=hL.mil;have hrd:=hL.rdy;have hsnL:=hL.snc;have hsl:=hok.len;have hrst:=hok.rst;unfold Yk;have hmm:= @J6 k (ZR t L b) b L.she;have hmf:= @Gy k (ZR t L b) b L.she;have hml:= @K4 k (ZR t L b) b L.she;refine Ze [2,7,14,31] Tryz.func295 rfl Za2 ?_;simp (disch:=omega) only [Tryz.f295,go_sem,seval];refine Z6 (X8 ?_);refine ZD [2,3,4,5,8] (fun _:Unit=> [(10,.p (.int .i64 (ZR t L b))),(11,.p (.int .i64 (W1 L b)))]) (fun _=> [YP x t r c sp,Wt L,Wt Wo]) (fun _=>True) ?_ ?_
 ·refine X8 ?_;refine ZB ?_ ?_<;>intro h
  ·subst h;exact ⟨(),Weak.mk (by simp (disch:=omega) only [YP,Wt,Wo,zShe,ZR,W1,Zk,go_sem,seval,↓reduceIte])⟩
  ·subst h;exact ⟨(),Weak.mk (by simp (disch:=omega) only [YP,Wt,Wo,zShe,ZR,W1,Zk,go_sem,seval,↓reduceIte])⟩
 ·intro _ _;refine Zf [7,14,31] _ _ _ _ ?_;simp (disch:=omega) only [YP,Wt,Wo,zShe,Zk,go_sem,seval];refine (bA L.she.times L.she.times_c Za).useF (X8 ?_)
  generalize hM:XM k (ZR t L b) b L.she=M at *
  refine ZD [2,4,8,10,11,12] (fun _:Unit=> []) (fun _=> [YP x t r c sp,Wt L,Wt Wo,My 0 0 M,.elems 4 (M.times.map eTim)]) (fun _=>True) ?_ ?_
  ·refine X8 ?_;refine ZB ?_ ?_<;>intro h
   ·have hk0:k=0:=Za
    subst hk0
    have e:M= { L.she with rest:=b,dep:=ZR t L b } :=by rw [<- hM,XM,if_pos rfl]
    rw [e];exact ⟨(),Weak.mk (by simp (disch:=omega) only [YP,Wt,Wo,zShe,My,Zk,go_sem,seval])⟩
   ·have e1:((k:Int)-1).toNat=k-1:=Za
    have hk1:k-1<L.she.times.length:=Za
    have sX:(L.she.times.map eTim).set (k-1) (PV.agg [.int .i64 (nth L.she.times (k-1)).arr,.int .i64 (nth L.she.times (k-1)).beg,.int .i64 (nth L.she.times (k-1)).dep,.bool b])=(L.she.times.set (k-1) { nth L.she.times (k-1) with rest:=b }).map eTim:=by
     rw [W6];rfl
    have hn1:nth (L.she.times.set (k-1) { nth L.she.times (k-1) with rest:=b }) (k-1)= { nth L.she.times (k-1) with rest:=b } :=by
     grind [Zj]
    have hl1:(L.she.times.set (k-1) { nth L.she.times (k-1) with rest:=b }).length=L.she.times.length:=Zb
    have hMt:M.times=(L.she.times.set (k-1) { nth L.she.times (k-1) with rest:=b }).set (k-1) { nth (L.she.times.set (k-1) { nth L.she.times (k-1) with rest:=b }) (k-1) with dep:=ZR t L b } :=by
     rw [hn1,List.set_set,<- hM,XM,if_neg Za];rfl
    have hM2:M.rest=L.she.rest/\M.dep=L.she.dep:=by rw [<- hM,XM,if_neg Za];simp
    simp (disch:=first | omega | (simp only [Zs,ZH,ZQ,Xp,ZA,Xg]<;>omega)) only [e1,go_sem,seval,↓reduceIte];rw [sX]
    generalize L.she.times.set (k-1) { nth L.she.times (k-1) with rest:=b } =l1 at *
    simp (disch:=first | omega | (simp only [Zs,ZH,ZQ,Xp,ZA,Xg]<;>omega)) only [e1,hl1,eq_self,W8,go_sem,seval];refine ⟨(),Weak.mk ?_⟩;simp (disch:=omega) only [YP,Wt,Wo,zShe,My,Zk,hM2.1,hM2.2,hmm,hmf,hml,go_sem,seval];rw [hMt,W6]
    rfl
  ·intro _ _;refine Zf [14,31] _ _ _ _ ?_;simp (disch:=omega) only [YP,Wt,Wo,zShe,My,Zk,go_sem,seval];refine ZD [2,4,8,10,11,12,13] (fun _:Unit=> [(14,.p (.int .i64 (TE t sp k)))]) (fun _=> [YP x t r c sp,Wt L,Wt Wo,My 0 0 M,.elems 4 (M.times.map eTim)]) (fun _=>True) ?_ ?_
   ·refine X8 ?_;refine ZB ?_ ?_<;>intro h
    ·have e:TE t sp k=(nth sp k).place:=by rw [TE,if_neg Za]
     exact ⟨(),Weak.mk (by simp (disch:=omega) only [YP,Wt,Wo,zShe,My,Zk,e,go_sem,seval])⟩
    ·have e:TE t sp k=t.dst:=by rw [TE,if_pos Za]
     exact ⟨(),Weak.mk (by simp (disch:=omega) only [YP,Wt,Wo,zShe,My,Zk,e,go_sem,seval])⟩
   ·intro _ _;refine Zf [31] _ _ _ _ ?_;simp (disch:=omega) only [YP,Wt,Wo,zShe,My,Zk,go_sem,seval];refine Z6 (X8 ?_);refine Zq (gS x t r c sp k hk Za) (X8 ?_);refine Nx (ZiF x.net t.prof (JM t sp k) (TE t sp k) (ZR t L b) hok.net Za) (X8 ?_);have hG:Ub x.net t.prof (JM t sp k) (TE t sp k) (ZR t L b)=Wb x t sp k (ZR t L b):=rfl;rw [hG];clear hG
    generalize Wb x t sp k (ZR t L b)=g at *
    generalize ZR t L b=d at *
    generalize W1 L b=s at *
    refine cD ?_ ?_<;>intro h1<;>simp (disch:=omega) only [Sh.out h1,go_sem,seval,↓reduceIte]
    ·have e:WB t sp k g d s M=(Wo,12):=by rw [WB,if_pos h1]
     rw [e];exact we (by simp (disch:=omega) only [Wo,zShe,Zk,go_sem,seval])
    ·refine cD ?_ ?_<;>intro h2<;>simp (disch:=omega) only [Sh.out h2,go_sem,seval,↓reduceIte]
     ·refine cD ?_ ?_<;>intro h3<;>simp (disch:=omega) only [Sh.out h3,go_sem,seval,↓reduceIte]
      ·have e:WB t sp k g d s M=(Wo,15):=by rw [WB,if_neg h1,if_pos Za,if_pos h3]
       rw [e];exact we (by simp (disch:=omega) only [Wo,zShe,Zk,go_sem,seval])
      ·refine Zp (Weak.fz (o:=4) (by rfl)) (Zf [] _ _ _ _ (V4 ?_));refine cD ?_ ?_<;>intro h4<;>simp (disch:=omega) only [Sh.out h4,go_sem,seval,↓reduceIte]
       ·have e:WB t sp k g d s M=(Wo,16):=by rw [WB,if_neg h1,if_pos Za,if_neg h3,if_pos h4]
        rw [e];exact we (by simp (disch:=omega) only [Wo,zShe,Zk,go_sem,seval])
       ·have e:WB t sp k g d s M=(⟨g.1,s+g.1-d,{ M with fin:=g.1,miles:=M.miles+g.2.1 }⟩,0):=by rw [WB,if_neg h1,if_pos Za,if_neg h3,if_neg h4]
        have hMc:M.times_c=false:=by
         rw [<- hM,XM,if_neg Za]
         grind
        rw [e];exact we (by simp (disch:=omega) only [hMc,go_sem,seval])
     ·have h2': ¬k=sp.length:=Za
      have hkl:k<sp.length:=Za
      have hstp:=hok.stp _ (ZN hkl);refine X6 (lU (nth sp k) g.1) ?_;unfold Nj
      by_cases h3:(nth sp k).cls<max g.1 (nth sp k).opn
      ·have e:WB t sp k g d s M=(Wo,14):=by simp_all [WB]
       rw [e,if_pos h3];refine X8 ?_;exact we (by simp (disch:=omega) only [Wo,zShe,Zk,go_sem,seval])
      ·rw [if_neg h3];refine X8 ?_;refine Zp (Weak.fz (o:=4) (by rfl)) (Zf [] _ _ _ _ (V4 ?_));refine cD ?_ ?_<;>intro h4<;>simp (disch:=omega) only [Sh.out h4,go_sem,seval,↓reduceIte]
       ·have e:WB t sp k g d s M=(Wo,16):=by simp_all [WB]
        rw [e];exact we (by simp (disch:=omega) only [Wo,zShe,Zk,go_sem,seval])
       ·have e:WB t sp k g d s M=(⟨max g.1 (nth sp k).opn+(nth sp k).serv,s+g.1-d,{ M with times_c:=false,times:=M.times++ [⟨g.1,max g.1 (nth sp k).opn,0,false⟩],miles:=M.miles+g.2.1 }⟩,0):=by simp_all [WB,if_neg]
        rw [e];exact we
theorem So {x t sp k L b} (hs:0<sp.length) (hc:0<k->L.she.times_c=false) (he:(Yk x t sp k L b).2=0):(Yk x t sp k L b).1.she.times_c=false:=by
 have hm:0<k->(XM k (ZR t L b) b L.she).times_c=false:=fun h=>by rw [XM,if_neg Za];exact hc h
 unfold Yk at he ⊢
 generalize Wb x t sp k (ZR t L b)=g at *
 generalize ZR t L b=d at *
 generalize W1 L b=s at *
 generalize XM k d b L.she=m at *
 unfold WB at he ⊢
 grind
structure LabO (n k:Nat) (L:Lab):Prop where
 rng:LabR k L
 len:k<=n->L.she.times.length=k
 clip:0<k->L.she.times_c=false
theorem Gn {x t sp k L b} (hok:TrpOk x t sp) (hs:0<sp.length) (hk:k<=sp.length) (h:LabO sp.length k L) (he:(Yk x t sp k L b).2=0):LabO sp.length (k+1) (Yk x t sp k L b).1 :=
 ⟨H4 hok hk h.rng he,fun hk2=>ED (h.len hk) he Za,fun _=>So hs h.clip he⟩
theorem Gp {x t sp} (hok:TrpOk x t sp) {st:Int} (hst:0<=st/\st<=4096):LabO sp.length 0 (XB t st) :=
 ⟨⟨by have:=hok.opn;grind [XB],by simp [XB],by simp [XB,zShe]⟩,fun _=>rfl,fun h=>Za⟩
theorem PE (x:Inst) (t:Typ) (r:Rte) (c:Bool) (sp:List Stp) (hok:TrpOk x t sp) (k:Nat) (hk:k<=sp.length) (hs1:0<sp.length) (L:Lab) (hL:LabO sp.length k L) (b:Bool) :
  PT 295 [.p (Lo x t r c sp),.p (Jf L),.p (.int .i64 (k:Nat)),.p (.bool b)] [.p (Jf (Yk x t sp k L b).1),.p (.int .i64 (Yk x t sp k L b).2)] :=
 ZbK x t r c sp hok k hk hs1 L hL.rng (hL.len hk) hL.clip b
theorem ZiS (x:Inst) (t:Typ) (r:Rte) (c:Bool) (sp:List Stp) (hok:TrpOk x t sp) (hs1:0<sp.length) (hst:0<=r.start/\r.start<=4096) (bs:List Bool) (d:Bool) (hb:bs.length=sp.length+1) :
  PT 272 [.p (Lo x t r c sp),.p (.list d (bs.map eB))] [.p (Bc (XK x t sp 0 (XB t r.start) bs).1.she),.p (.int .i64 (XK x t sp 0 (XB t r.start) bs).2)]:=by
 have hsl:=hok.len;refine Ze [] Tryz.func272 rfl ZaK ?_;simp (disch:=omega) only [Tryz.f272,go_sem,seval];refine (F1 x t r c sp).use (X8 ?_)
 refine Zi [2,4,6,13,14] (fun q:Nat×Lab=> [(15,.p (.int .i64 q.1))]) (fun q=> [YP x t r c sp,.cells [.p (.bool false),.p (.int .i64 0),.p (.list true []),.p (.int .i64 0),.p (.int .i64 0)],Wt q.2])
  (fun q=>q.1<=bs.length/\XK x t sp 0 (XB t r.start) bs=XK x t sp q.1 q.2 (bs.drop q.1)/\LabO sp.length q.1 q.2) (fun q=>bs.length-q.1) (0,XB t r.start) ⟨Zb,Zb,Gp hok hst⟩ (Weak.mk ?_) ?_
 ·simp (disch:=omega) only [YP,Wt,go_sem,seval]
 ·rintro ⟨k,L⟩ ⟨hk,hrun,hL⟩;simp only at hk hrun hL;simp (disch:=omega) only [YP,Wt,go_sem,seval];refine cD ?_ ?_<;>intro h1<;>simp (disch:=omega) only [Sh.out h1,go_sem,seval,↓reduceIte]
  ·have hk2:k<bs.length:=Za
   have hdrop:bs.drop k=nth bs k::bs.drop (k+1):=by rw [Vq hk2,Zj hk2]
   rw [hdrop,XK] at hrun;have cn:=PE x t r c sp hok k Za hs1 L hL (nth bs k);have hL2:=Gn (x:=x) (t:=t) (b:=nth bs k) hok hs1 Za hL
   generalize Yk x t sp k L (nth bs k)=N at *
   refine X6 cn (X8 ?_);refine ZB ?_ ?_<;>intro h2
   ·rw [hrun,if_neg h2];exact we (by simp (disch:=omega) only [Wo,zShe,Zk,go_sem,seval])
   ·rw [if_pos Za] at hrun;exact ⟨(k+1,N.1),⟨Za,hrun,hL2 Za⟩,Za,wk⟩
  ·have hkl:k=bs.length:=Za
   subst hkl;rw [VW,XK] at hrun;rw [hrun];exact we
theorem lS (l m:Lab):PC 298 [.p (Jf l),.p (Jf m)] (.bool (Xa l m)):=by
 refine Zc Tryz.func298 rfl Za5 ?_;simp (disch:=omega) only [Tryz.f298,go_sem,seval];refine gT ?_ ?_<;>intro h<;>simp (disch:=omega) only [Sh.out h,go_sem,seval,↓reduceIte]
 ·simp [Xa,h]
 ·simp [Xa,h]
def gH (x:Inst) (t:Typ) (r:Rte) (c:Bool) (sp:List Stp) (o:List Lab) (f z:Lab):List AM.Obj:= [YP x t r c sp,.dead,.elems 7 (o.map Jf),Wt f,Wt z]
theorem nP (x:Inst) (t:Typ) (r:Rte) (c:Bool) (sp:List Stp) (o:List Lab) (f z m:Lab):ACalls Tryz.prog 297 [.p (Jf m),.ptr 4 0] (gH x t r c sp o f z) fun y H'=>y= .p (.bool (Xa m z))/\H'=gH x t r c sp o f z:=by
 refine Ze [] Tryz.func297 rfl Za4 ?_;simp (disch:=omega) only [Tryz.f297,gH,YP,Wt,go_sem,seval];refine (lS m z).use (X8 ?_);exact we
theorem NJ (x:Inst) (t:Typ) (r:Rte) (c:Bool) (sp:List Stp) (o:List Lab) (f z:Lab) (hl:o.length<=2097152) :
  ACalls Tryz.prog 314 [.sl 2 0 o.length o.length,.fn (.func 297) [] [.ptr 4 0]] (gH x t r c sp o f z) fun y H'=>y= .p (.int .i64 (sW (fun m=>Xa m z) o))/\H'=gH x t r c sp o f z:=by
 refine Ze [] Tryz.func314 rfl Zbj ?_;simp (disch:=omega) only [Tryz.f314,gH,YP,Wt,go_sem,seval];refine Zi [0,1,7] (fun k:Nat=> [(8,.p (.int .i64 k))]) (fun _=>gH x t r c sp o f z) (fun k=>k<=o.length/\ ∀j,j<k->Xa (nth o j) z=false) (fun k=>o.length-k) 0 Zb (Weak.mk ?_) ?_
 ·simp (disch:=omega) only [gH,YP,Wt,go_sem,seval,↓reduceIte]
 ·rintro k ⟨hk,hno⟩;simp (disch:=omega) only [gH,YP,Wt,go_sem,seval];refine cD ?_ ?_<;>intro h<;>simp (disch:=omega) only [Sh.out h,go_sem,seval,↓reduceIte]
  ·have hk2:k<o.length:=Za
   have hg:=nP x t r c sp o f z (nth o k);simp (disch:=first | omega | (simp only [Zs,ZH,ZQ,Xp,ZA,Xg]<;>omega)) only [WK hk2,hk2,go_sem,seval,↓reduceIte];simp (disch:=omega) only [gH,YP,Wt,go_sem,seval] at hg;refine hg.useH (X8 ?_);refine cD ?_ ?_<;>intro h2<;>simp (disch:=omega) only [Sh.out h2,go_sem,seval,↓reduceIte]
   ·rw [cW (f:=fun m=>Xa m z) hk2 h2 hno];exact we
   ·exact ⟨k+1,⟨Za,Zm.2 ⟨hno,Za⟩⟩,Za,wk⟩
  ·have hkl:k=o.length:=Za
   subst hkl;rw [cY hno];exact we
theorem Fv (x:Inst) (t:Typ) (r:Rte) (c:Bool) (sp:List Stp) (o:List Lab) (f z:Lab) (hl:o.length<=2097152) :
  ACalls Tryz.prog 296 [.sl 2 0 o.length o.length,.fn (.func 297) [] [.ptr 4 0]] (gH x t r c sp o f z) fun y H'=>y= .p (.bool (o.any fun m=>Xa m z))/\H'=gH x t r c sp o f z:=by
 refine Ze [] Tryz.func296 rfl Za3 ?_;simp (disch:=omega) only [Tryz.f296,go_sem,seval];refine (NJ x t r c sp o f z hl).useH (X8 ?_);rw [cX];exact we (by simp (disch:=omega) only [gH,YP,Wt,go_sem,seval])
def A6 (x:Inst) (t:Typ) (sp:List Stp) (r:List Bool) (k:Nat) (f:Lab) (bs:List Bool) (l:List Lab):List Lab:=bs.filterMap (XP x t sp k f)++WT (XP x t sp) (V2 r) k l
theorem wW (x:Inst) (t:Typ) (r:Rte) (c:Bool) (sp:List Stp) (hok:TrpOk x t sp) (hs1:0<sp.length) (k:Nat) (hk:k<=sp.length) (hrl:r.rests.length<=1048576) (l:List Lab) (d:Bool) (hl:l.length<=1048576) (hL: ∀L∈l,LabO sp.length k L) :
  PC 271 [.p (Lo x t r c sp),.p (.list d (l.map Jf)),.p (.int .i64 (k:Nat))] (.list false ((XW Xa [] (WT (XP x t sp) (V2 r.rests) k l)).map Jf)):=by
 have hsl:=hok.len;refine Ze [2,16] Tryz.func271 rfl ZaJ ?_;simp (disch:=omega) only [Tryz.f271,go_sem,seval];refine Zp (Weak.fz (o:=1) (by rfl)) (V4 ?_);refine ZD [1,2,3] (fun cb:Bool=> [(7,.p (.list cb ((V2 r.rests k).map eB)))]) (fun _=> [YP x t r c sp,.dead]) (fun _=>True) ?_ ?_
 ·refine X8 ?_;refine ZB ?_ ?_<;>intro h
  ·have hk2:k<r.rests.length:=Za
   have e:V2 r.rests k=(r.rests.take (k+1)).drop k:=by
    grind [V2,Zx]
   exact ⟨r.rests_c&&decide ((k:Int)+1=(r.rests.length:Int)),Weak.mk (by simp (disch:=omega) only [YP,e,go_sem,seval])⟩
  ·have e:V2 r.rests k= [false,true]:=by grind [V2]
   exact ⟨false,Weak.mk (by simp (disch:=omega) only [YP,e,Zu,Zk,go_sem,seval])⟩
 ·intro cb _
  have hch:(V2 r.rests k).length<=2:=by grind [V2]
  refine Zf [16] _ _ _ _ ?_;simp (disch:=omega) only [YP,go_sem,seval]
  refine ZI [16] [2,3,7,29,30] (fun q:Nat×List Lab=> [(8,.sl 2 0 q.2.length q.2.length),(31,.p (.int .i64 q.1))]) (fun q=> [YP x t r c sp,.dead,.elems 7 (q.2.map Jf)])
   (fun q=>q.1<=l.length/\XW Xa [] (WT (XP x t sp) (V2 r.rests) k l)=XW Xa q.2 (WT (XP x t sp) (V2 r.rests) k (l.drop q.1))/\q.2.length<=2*q.1) (fun q=>l.length-q.1) (0,[]) Zb (Weak.ofNil 8 7 rfl Zb (Weak.mk ?_)) ?_
  ·simp (disch:=omega) only [YP,Zk,ZH,go_sem,seval]
  ·rintro ⟨i,o⟩ ⟨hi,hpr,hol⟩;simp only at hi hpr hol;simp (disch:=omega) only [YP,go_sem,seval];refine cD ?_ ?_<;>intro h1<;>simp (disch:=omega) only [Sh.out h1,go_sem,seval,↓reduceIte]
   ·have hi2:i<l.length:=Za
    have hLi:=hL _ (ZN hi2)
    have hdrop:l.drop i=nth l i::l.drop (i+1):=by rw [Vq hi2,Zj hi2]
    rw [hdrop] at hpr;have hpr:XW Xa [] (WT (XP x t sp) (V2 r.rests) k l)=XW Xa o (A6 x t sp r.rests k (nth l i) ((V2 r.rests k).drop 0) (l.drop (i+1))):=hpr
    refine Zi [2,3,7,10,29,30,31,35,36] (fun q:Nat×List Lab=> [(8,.sl 2 0 q.2.length q.2.length),(37,.p (.int .i64 q.1))]) (fun q=> [YP x t r c sp,.dead,.elems 7 (q.2.map Jf),Wt (nth l i)])
     (fun q=>q.1<=(V2 r.rests k).length/\XW Xa [] (WT (XP x t sp) (V2 r.rests) k l)=XW Xa q.2 (A6 x t sp r.rests k (nth l i) ((V2 r.rests k).drop q.1) (l.drop (i+1)))/\q.2.length<=2*i+q.1) (fun q=>(V2 r.rests k).length-q.1) (0,o) ⟨Zb,hpr,hol⟩ (Weak.mk ?_) ?_
    ·simp (disch:=omega) only [YP,Wt,go_sem,seval]
    ·clear hpr hol;rintro ⟨j,o⟩ ⟨hj,hpr,hol⟩;simp only at hj hpr hol;simp (disch:=omega) only [YP,Wt,go_sem,seval];refine ZB ?_ ?_<;>intro h2
     ·have hj2:j<(V2 r.rests k).length:=Za
      have hd2:(V2 r.rests k).drop j=nth (V2 r.rests k) j::(V2 r.rests k).drop (j+1):=by rw [Vq hj2,Zj hj2]
      have cn:=PE x t r c sp hok k hk hs1 (nth l i) hLi (nth (V2 r.rests k) j);have ho2:XP x t sp k (nth l i) (nth (V2 r.rests k) j)=if (Yk x t sp k (nth l i) (nth (V2 r.rests k) j)).2=0 then some (Yk x t sp k (nth l i) (nth (V2 r.rests k) j)).1 else none:=rfl;rw [hd2,A6,List.filterMap_cons,ho2] at hpr
      generalize Yk x t sp k (nth l i) (nth (V2 r.rests k) j)=N at *
      refine X6 cn (X8 ?_);refine Jd ?_ ?_<;>intro h3
      ·have hcl:=Fv x t r c sp o (nth l i) N.1 Za;simp (disch:=omega) only [gH,YP,Wt,go_sem,seval] at hcl;refine hcl.useH (X8 ?_);rw [if_pos h3] at hpr;have hpr:XW Xa [] (WT (XP x t sp) (V2 r.rests) k l)=if (o.any fun m=>Xa m N.1)=true then XW Xa o (A6 x t sp r.rests k (nth l i) ((V2 r.rests k).drop (j+1)) (l.drop (i+1))) else XW Xa (o++ [N.1]) (A6 x t sp r.rests k (nth l i) ((V2 r.rests k).drop (j+1)) (l.drop (i+1))):=hpr;refine ZB ?_ ?_<;>intro h4
       ·rw [if_neg (by grind)] at hpr;exact ⟨(j+1,o++ [N.1]),⟨Za,hpr,by simp;omega⟩,Za,Weak.mk (by simp (disch:=omega) only [ZQ,Zs,ZH,Xm,Zu,Zk,go_sem,seval])⟩
       ·rw [if_pos (by grind)] at hpr;exact ⟨(j+1,o),⟨Za,hpr,by grind⟩,Za,wk⟩
      ·rw [if_neg h3] at hpr;exact ⟨(j+1,o),⟨Za,hpr,by grind⟩,Za,wk⟩
     ·have hjl:j=(V2 r.rests k).length:=Za
      subst hjl;rw [VW,A6,List.filterMap_nil,ZF] at hpr;exact ⟨(i+1,o),⟨Za,hpr,by grind⟩,Za,wk⟩
   ·have hil:i=l.length:=Za
    subst hil;have e:WT (XP x t sp) (V2 r.rests) k []= []:=rfl;rw [VW,e,XW] at hpr;rw [hpr];refine Zp (Weak.fz (o:=2) (by rfl)) (Zf [] _ _ _ _ (V4 ?_));exact we
def mU : PV:= .agg [.list true [],.list true [],.list true [],.list true [],.list true [],.list true [],.str [],.int .i64 0,.int .i64 0,.int .i64 0,.list true [],.int .i64 0,.int .i64 0,.int .i64 0,.int .i64 0,.int .i64 0,.int .i64 0,.int .i64 0,.int .i64 0,.int .i64 0,.int .i64 0,.int .i64 0,.list true [],.list true [],.list true []]
theorem pB (x:Inst) (r:Rte) (hty:0<=r.typ/\r.typ<(x.types.length:Int)) (htl:x.types.length<=1048576) (hvl:r.visits.length<=20) (hs: ¬(0<=r.start/\r.start<=4096)) :
  PT 269 [.p (Zv x),.p (Z0 r)] [.p mU,.p (.bool false)]:=by
 have e1: ¬r.typ<0:=Za
 have e2: ¬(x.types.length:Int)<=r.typ:=Za
 refine Ze [] Tryz.func269 rfl dO ?_;simp (disch:=omega) only [Tryz.f269,e1,e2,go_sem,seval];refine gF ?_ ?_<;>intro h1<;>simp (disch:=omega) only [Sh.out h1,go_sem,seval,↓reduceIte]
 ·exact we (by simp (disch:=omega) only [mU,go_sem,seval])
 ·refine gF ?_ ?_<;>intro h2<;>simp (disch:=omega) only [Sh.out h2,go_sem,seval,↓reduceIte]
  ·exact we (by simp (disch:=omega) only [mU,go_sem,seval])
  ·omega
theorem Mk {x t sp} : ∀(bs:List Bool) (k:Nat) (L:Lab),¬(XK x t sp k L bs).2=0->(XK x t sp k L bs).1=Wo
 | [],k,L,h=>by simp [XK] at h
 | b::bs,k,L,h=>by
  rw [XK] at h ⊢
  split
  ·rename_i c;rw [if_pos c] at h;exact Mk bs (k+1) _ h
  ·rfl
theorem RZ (n:Nat):List.replicate n false∈Y3 (List.replicate n false):=by
 rw [fromB_next];simp
theorem cP {l:List Lab} (h:Vh Wa none l=none):l= []:=by
 cases l with
 | nil=>rfl
 | cons a l =>
  obtain ⟨z,hz,_⟩:=QD (fin:=Wa) l a;have:Vh Wa none (a::l)=Vh Wa (some a) l:=rfl
  grind
theorem RB {x t sp} {st:Int} {r:List Bool} (h:Vh Wa none ((YY r (sp.length+1)).filterMap (Vg (XP x t sp) 0 (XB t st)))=none): ¬(XK x t sp 0 (XB t st) (Y6 r (sp.length+1))).2=0:=fun h0=>by
 have h1:=cP h;have h2:Y6 r (sp.length+1)∈YY r (sp.length+1):=Ww.2 ⟨_,RZ _,rfl⟩
 simp_all [VO]
theorem Nm {x t sp} {st:Int} {r:List Bool} (hr:r.length<=sp.length+1) (h:Vh Wa none (JF Xa (XP x t sp) (V2 r) (sp.length+1) 0 [XB t st])=none): ¬(XK x t sp 0 (XB t st) (Y6 r (sp.length+1))).2=0 :=
 RB (by rw [Gq,W9,Ga r _ hr] at h;exact h)
def Qw (x:Inst) (r:Rte):She×Int:=if 0<=r.start/\r.start<=4096/\r.rests.length<=r.visits.length+1 then XF x r else (zShe,2)
theorem aP {x t sp} {ch:Nat->List Bool} {k:Nat} {l:List Lab} (hok:TrpOk x t sp) (hs:0<sp.length) (hk:k<=sp.length) (h: ∀L∈l,LabO sp.length k L): ∀L∈XW Xa [] (WT (XP x t sp) ch k l),LabO sp.length (k+1) L:=fun L hL=>by
 have h1:=K9 Xa _ _ L hL;rw [ZF] at h1;obtain ⟨a,ha,hb⟩:=Uq.1 h1
 grind [XP,Gn]
theorem CE : ∀(c out:List Lab),(XW Xa out c).length<=out.length+c.length
 | [],out=>by simp [XW]
 | x::c,out=>by
  rw [XW]
  split
  ·have:=CE c out;simp;omega
  ·have:=CE c (out++ [x]);simp at this ⊢;omega
theorem F3 {x t sp} {r:List Bool} {k:Nat} : ∀l:List Lab,(WT (XP x t sp) (V2 r) k l).length<=2*l.length
 | []=>by simp [WT]
 | a::l=>by
  have ih:=F3 (x:=x) (t:=t) (sp:=sp) (r:=r) (k:=k) l;have h1:(WT (XP x t sp) (V2 r) k (a::l))=(V2 r k).filterMap (XP x t sp k a)++WT (XP x t sp) (V2 r) k l:=rfl
  grind [V2]
theorem oT (x:Inst) (r:Rte) (hx:InstOk x) (hl:r.visits.length<=1048576) (hrl:r.rests.length<=1048576) (hty:0<=r.typ/\r.typ<(x.types.length:Int)) (h0:Xr x r.visits=0) :
  PT 221 [.p (Zv x),.p (Z0 r)] [.p (Bc (Qw x r).1),.p (.int .i64 (Qw x r).2)]:=by
 have hd:=UM hx;have hsq:=VD h0;have hol:=hd.ord;have htl:=hd.typ;have hvl:=hsq.len hol;have hok:=Ku hx hty hsq;have hsl:(Xw x r.visits).length=r.visits.length:=Yg
 have hs1:0<(Xw x r.visits).length:=by
  rw [hsl];have:=hsq.ne
  grind
 refine Ze [6,13,14] Tryz.func221 rfl Zab ?_;simp (disch:=omega) only [Tryz.f221,go_sem,seval]
 by_cases hs:0<=r.start/\r.start<=4096
 ·refine X6 (ZbX x r hx hty h0 hs) (X8 ?_);refine cD ?_ ?_<;>intro h1<;>simp (disch:=omega) only [Sh.out h1,go_sem,seval,↓reduceIte]
  ·have e:Qw x r=(zShe,2):=by rw [Qw,if_neg Za]
   rw [e];exact we (by simp (disch:=omega) only [zShe,Zk,go_sem,seval])
  ·have hrs:r.rests.length<=r.visits.length+1:=Za
   have e:Qw x r=XF x r:=by simp_all [Qw]
   have hbn:= @Nm x (ZX x r) (Xw x r.visits) r.start r.rests Za;rw [e,XF,Hp Za];refine (F1 x (ZX x r) r false (Xw x r.visits)).use (X8 ?_)
   generalize hT:ZX x r=t at *
   generalize hS:Xw x r.visits=sp at *
   refine Zp (Weak.fz (o:=4) (by rfl)) ?_;refine Zf [13,14] _ _ _ _ (X8 ?_)
   refine ZI [13,14] [3,4,6,8,38] (fun q:Nat×List Lab=> [(9,.p (.list false (q.2.map Jf))),(39,.p (.int .i64 q.1))]) (fun _=> [Zg x,ZK r,.cells [.p (.bool false),.p (.int .i64 0),.p (.list true []),.p (.int .i64 0),.p (.int .i64 0)],YP x t r false sp,.dead])
    (fun q=>q.1<=sp.length+1/\JF Xa (XP x t sp) (V2 r.rests) (sp.length+1) 0 [XB t r.start]=JF Xa (XP x t sp) (V2 r.rests) (sp.length+1-q.1) q.1 q.2/\(∀L∈q.2,LabO sp.length q.1 L)/\q.2.length<=2^q.1) (fun q=>sp.length+1-q.1) (0,[XB t r.start]) ⟨Zb,Zb,fun L hL=>by grind [Gp],Zb⟩ (Weak.mk ?_) ?_
   ·simp (disch:=omega) only [Zg,ZK,YP,Zu,Zk,X7,Z9,go_sem,seval]
   ·rintro ⟨k,l⟩ ⟨hk,hit,hlo,hll⟩;simp only at hk hit hlo hll;simp (disch:=omega) only [Zg,ZK,YP,go_sem,seval];refine cD ?_ ?_<;>intro h2<;>simp (disch:=omega) only [Sh.out h2,go_sem,seval,↓reduceIte]
    ·have hk2:k<=sp.length:=Za
     have hp20:2^k<=2^20:=XZ Za Za;refine (wW x t r false sp hok hs1 k hk2 hrl l false Za hlo).use (X8 ?_)
     have hn:JF Xa (XP x t sp) (V2 r.rests) (sp.length+1-k) k l=JF Xa (XP x t sp) (V2 r.rests) (sp.length+1-(k+1)) (k+1) (XW Xa [] (WT (XP x t sp) (V2 r.rests) k l)):=by
      have e:sp.length+1-k=(sp.length+1-(k+1))+1:=Za
      rw [e,JF]
     have hln:=CE (WT (XP x t sp) (V2 r.rests) k l) [];have hln2:=F3 (x:=x) (t:=t) (sp:=sp) (r:=r.rests) (k:=k) l;exact ⟨(k+1,XW Xa [] (WT (XP x t sp) (V2 r.rests) k l)),⟨Za,hit.trans hn,aP hok hs1 hk2 hlo,by grind⟩,Za,Weak.mk (by simp (disch:=omega) only [X7,Z9,go_sem,seval])⟩
    ·have hkn:k=sp.length+1:=Za
     subst hkn;rw [Nat.sub_self,JF] at hit;rw [hit] at hbn ⊢;clear hit;refine cD ?_ ?_<;>intro h3<;>simp (disch:=omega) only [Sh.out h3,go_sem,seval,↓reduceIte]
     ·have hl0:l= []:=Z1 Za;subst hl0;have hbn:=hbn rfl;refine VC (Ho 3 rfl rfl (X8 ?_));refine ⟨_,_,L1 (e:=4) rfl Tryz.underlying46 Zd rfl rfl rfl ?_ ?_ ?_,?_⟩
      ·simp
      ·simp;omega
      ·intro q hq;obtain ⟨b,_,rfl⟩:=Ww.1 hq
       rfl
      ·have hpl:(Y6 r.rests (sp.length+1)).length=sp.length+1:=by simp [Y6];omega
       have hpad:r.rests.map eB++(PV.bool false::List.replicate r.visits.length (PV.bool false)).drop (r.rests.map eB).length=(Y6 r.rests (sp.length+1)).map eB:=by
        rw [Y6,Xm,<- Jn,List.drop_replicate,List.map_replicate,hsl,Xp];rfl
       have hcr:=ZiS x t r false sp hok hs1 hs (Y6 r.rests (sp.length+1)) false hpl;have hbad:=Mk _ _ _ hbn;rw [hbad] at hcr;simp only [X7,Z9];rw [hpad]
       generalize hRP:Y6 r.rests (sp.length+1)=rp at *
       refine Zp (Weak.fz (o:=5) (by rfl)) (Zf [] _ _ _ _ (V4 ?_));rw [if_pos Za];refine X6 hcr (X8 ?_);have hfm0:Vh Wa none ([]:List Lab)=none:=rfl;rw [hfm0];exact we (by simp (disch:=omega) only [Wo,zShe,Zk,go_sem,seval])
     ·cases l with
      | nil=>simp at h3
      | cons l0 l =>
       have e0:U6 ((l0::l).map Jf) 0=Jf l0:=rfl;have hn0:nth (l0::l) 0=l0:=rfl;simp (disch:=first | omega | (simp only [Zs,ZH,ZQ,Xp,ZA,Xg]<;>omega)) only [hn0,Yu,go_sem,seval];have hfm:Vh Wa none (l0::l)=Vh Wa (some l0) l:=rfl;rw [hfm]
       have hlen:l.length<=2097152:=by
        have hp20:2^(sp.length+1)<=2^21:=XZ Za Za
        grind
       refine Zi [4,12,65,66] (fun q:Nat×Lab=> [(67,.p (.int .i64 q.1))]) (fun q=> [Zg x,ZK r,.cells [.p (.bool false),.p (.int .i64 0),.p (.list true []),.p (.int .i64 0),.p (.int .i64 0)],YP x t r false sp,.dead,Wt q.2])
        (fun q=>q.1<=l.length/\Vh Wa (some l0) l=Vh Wa (some q.2) (l.drop q.1)) (fun q=>l.length-q.1) (0,l0) Zb (Weak.mk ?_) ?_
       ·simp (disch:=omega) only [Zg,ZK,YP,Wt,go_sem,seval]
       ·rintro ⟨i,m⟩ ⟨hi,hm⟩;simp only at hi hm;simp (disch:=omega) only [Zg,ZK,YP,Wt,go_sem,seval];refine cD ?_ ?_<;>intro h4<;>simp (disch:=omega) only [Sh.out h4,go_sem,seval,↓reduceIte]
        ·have hi2:i<l.length:=Za
         have hdrop:l.drop i=nth l i::l.drop (i+1):=by rw [Vq hi2,Zj hi2]
         rw [hdrop,Vh] at hm;refine ZB ?_ ?_<;>intro h5
         ·rw [if_pos (show Wa (nth l i)<Wa m from h5)] at hm;exact ⟨(i+1,nth l i),⟨Za,hm⟩,Za,wk⟩
         ·rw [if_neg (show ¬Wa (nth l i)<Wa m from h5)] at hm;exact ⟨(i+1,m),⟨Za,hm⟩,Za,wk⟩
        ·have hil:i=l.length:=Za
         subst hil;rw [VW,Vh] at hm;rw [hm];exact we
 ·have e:Qw x r=(zShe,2):=by rw [Qw,if_neg (fun h=>hs ⟨h.1,h.2.1⟩)]
  rw [e];refine X6 (pB x r hty htl hvl hs) ?_;simp (disch:=omega) only [mU,go_sem,seval];exact we (by simp (disch:=omega) only [zShe,Zk,go_sem,seval])
end Go.Proofs.YtiigdaohjanidaaGreatDoor.K
namespace Go.AM
open Go.RowKit
theorem eU (k v:Int) (l:List (Int×Int)): ∃l',eT (.int .i64 k) (.int .i64 v) (l.map eII)=l'.map eII/\(∀q,J8 l' q=if q=k then v else J8 l q)/\l'.length<=l.length+1:=by
 unfold eT;rw [Ct]
 cases hm:GB l k with
 | none =>
  refine ⟨l++ [(k,v)],by simp [eII],fun q=> ?_,Zb⟩
  have e1:GB (l++ [(k,v)]) k=some l.length:=by
   grind [GB]
  by_cases hq:q=k
  ·grind [J8]
  ·rw [if_neg hq];unfold J8
   have e3:GB (l++ [(k,v)]) q=GB l q:=by
    grind [GB]
   rw [e3]
   cases hc:GB l q with
   | none=>rfl
   | some i =>
    unfold GB at hc
    grind [Z5]
 | some i =>
  refine ⟨l.set i (k,v),by simp_all [eII],?_,Zb⟩;have hH:oat [.map (l.map eII)] 0= .map (l.map eII):=rfl;have:=NQ (H:= [.map (l.map eII)]) (o:=0) (l:=l) (k:=k) (i:=i) (v:=v) (K:=fun _ _=> ∀q,J8 (l.set i (k,v)) q=if q=k then v else J8 l q) hH hm fun h=>h;unfold KF at this;obtain ⟨u,q1,_⟩:=Ey hm
  simp_all [Ax]
theorem eV {P:Program} {H:List Obj} {t:TypeId} {o:Nat} {l:List (Int×Int)} {k v:Int} {K:V->List Obj->Prop} (hT:eG P t=some (.int .i64,some (.int .i64 0))) (hH:oat H o= .map (l.map eII))
  (h: ∀l':List (Int×Int),(∀q,J8 l' q=if q=k then v else J8 l q)->K .junk (H.set o (.map (l'.map eII)))):Ax (CR P H t (.mp o) (.p (.int .i64 k)) (.p (.int .i64 v))) K:=by
 obtain ⟨kt,et,h1,h2,h3⟩:=LS hT;obtain ⟨l',e,hg,_⟩:=eU k v l
 grind [CR,Gu,Ax]
end Go.AM
namespace Go.Proofs.YtiigdaohjanidaaGreatDoor.K
open Go Go.AM Go.Proofs
set_option maxRecDepth 8000
set_option maxHeartbeats 8000000
def D8 (l:List Vis) (k:Nat) (q:Int):Int:=((l.take k).countP fun v=>decide (v.order=q):Nat)
theorem RK {l:List Vis} {k:Nat} (h:k<l.length) (q:Int):D8 l (k+1) q=if q=(nth l k).order then D8 l k q+1 else D8 l k q:=by
 unfold D8;rw [Zx h,List.countP_append,Zj h]
 grind
theorem bD {l:List Vis} {k:Nat} (h:k<=l.length) (q:Int):0<=D8 l k q/\D8 l k q<=k:=by
 grind [D8,ZA]
theorem Ns {l:List Vis} {k:Nat} :Uo l k=decide (D8 l k (nth l k).order=0):=by
 unfold Uo D8;rw [Up];simp
theorem AH (a b:Int):PC 273 [.p (.int .i64 a),.p (.int .i64 b)] (.bool (Xj a b)):=by
 refine Zc Tryz.func273 rfl ZaL ?_;simp (disch:=omega) only [Tryz.f273,go_sem,seval];refine gT ?_ ?_<;>intro h<;>simp (disch:=omega) only [Sh.out h,go_sem,seval,↓reduceIte]
 ·simp [Xj,h]
 simp_all [Xj]
theorem gE (x:Inst) (r:Rte) (s:She) (hty:0<=r.typ/\r.typ<(x.types.length:Int)) (ho:x.orders.length<=1048576) (ht:x.types.length<=1048576) (hl:r.visits.length<=1048576) (hv:Inr x r.visits)
  (hc:0<=(ZX x r).fixed/\(ZX x r).fixed<=100000/\0<=(ZX x r).perMile/\(ZX x r).perMile<=100/\0<=(ZX x r).perTick/\(ZX x r).perTick<=100) (ho2:0<=(ZX x r).opn/\(ZX x r).opn<=4096)
  (hf: -4096<=s.fin/\s.fin<=8192) (hm:0<=s.miles/\s.miles<=1000000) :
  PC 222 [.p (Zv x),.p (Z0 r),.p (Bc s)] (De (Mt x r s)):=by
 have hti:r.typ.toNat<x.types.length:=Za
 have hT:eG Tryz.prog 334=some (.int .i64,some (.int .i64 0)):=Zd
 unfold Mt;have htd:nth x.types r.typ.toNat=ZX x r:=rfl
 generalize ZX x r=t at *
 have e1: ¬r.typ<0:=Za
 have e2: ¬(x.types.length:Int)<=r.typ:=Za
 have p1:0<=t.perMile*s.miles/\t.perMile*s.miles<=100*1000000:=⟨V7 Za Za,Qg Za Za Za Za⟩
 have hW: -8192<=s.fin-t.opn/\s.fin-t.opn<=8192:=Za
 have p2: -819200<=t.perTick*(s.fin-t.opn)/\t.perTick*(s.fin-t.opn)<=819200:=by
  generalize s.fin-t.opn=w at hW;have a1:=Cq hW.2 (show 0<=t.perTick by omega);have a2:=Cq hW.1 (show 0<=t.perTick by omega);omega
 have p3: -128<=(s.fin-t.opn).tdiv 64/\(s.fin-t.opn).tdiv 64<=128:=by
  grind
 have p4:0<=(s.fin-t.opn).tdiv 64*(s.fin-t.opn).tdiv 64/\(s.fin-t.opn).tdiv 64*(s.fin-t.opn).tdiv 64<=16384:=by
  generalize (s.fin-t.opn).tdiv 64=q at p3;refine ⟨?_,?_⟩
  ·rcases K1 0 q with h | h
   ·exact V7 h h
   ·exact Int.mul_nonneg_of_nonpos_of_nonpos h h
  ·rcases K1 0 q with h | h
   ·have:=Qg p3.2 p3.2 h Za;omega
   ·have h2:0<= -q:=Za
    have:=Qg (show-q<=128 by omega) (show-q<=128 by omega) h2 Za
    grind
 refine Zc Tryz.func222 rfl Zac ?_;simp (disch:=omega) only [Tryz.f222,e1,e2,htd,go_sem,seval]
 refine Zi [3,4,6,10,11,59,60] (fun q:Nat×List (Int×Int)=> [(61,.p (.int .i64 q.1))]) (fun q=> [Zg x,ZK r,.cells [.p (.bool s.rest),.p (.int .i64 s.dep),.p (.list s.times_c (s.times.map eTim)),.p (.int .i64 s.fin),.p (.int .i64 s.miles)],BT 0 0 0 0,X2 t,BT (t.fixed+t.perMile*s.miles+t.perTick*(s.fin-t.opn)) (chgF x r.visits r.typ q.1).1 (chgF x r.visits r.typ q.1).2 ((s.fin-t.opn).tdiv 64*(s.fin-t.opn).tdiv 64),.map (q.2.map eII)])
  (fun q=>q.1<=r.visits.length/\ ∀n,J8 q.2 n=D8 r.visits q.1 n) (fun q=>r.visits.length-q.1) (0,[]) ⟨Zb,fun n=>rfl⟩ (Weak.mk ?_) ?_
 ·simp (disch:=omega) only [Zg,ZK,X2,BT,chgF,go_sem,seval]
 ·rintro ⟨k,m⟩ ⟨hk,hmg⟩;simp only at hk hmg;have hch:=A4 (x:=x) (l:=r.visits) (t:=r.typ) k;simp (disch:=omega) only [Zg,ZK,X2,BT,go_sem,seval];refine cD ?_ ?_<;>intro h1<;>simp (disch:=omega) only [Sh.out h1,go_sem,seval,↓reduceIte]
  ·have hk2:k<r.visits.length:=Za
   obtain ⟨v1,v2⟩:=hv _ (Zn hk2)
   have e3: ¬(nth r.visits k).order<0:=Za
   have e4: ¬(x.orders.length:Int)<=(nth r.visits k).order:=Za
   have v3:(nth r.visits k).order.toNat<x.orders.length:=Za
   have hcs:=RK hk2;have hcr:=bD hk (nth r.visits k).order;have hfi:=Ns (l:=r.visits) (k:=k);have hch2:chgF x r.visits r.typ (k+1)=_:=chgF.eq_2 x r.visits r.typ k;refine LQ hT rfl ?_;rw [hmg];refine X8 ?_;refine eV hT rfl fun m' hm'=> ?_
   have hmg': ∀n,J8 m' n=D8 r.visits (k+1) n:=fun n=>by grind
   simp (disch:=omega) only [e3,e4,X7,Z9,go_sem,seval];refine LQ hT rfl ?_;rw [hm',if_pos rfl];refine X8 ?_;refine ZB ?_ ?_<;>intro h2
   ·have h3: ¬Uo r.visits k=true:=by grind
    rw [if_neg h3] at hch2;exact ⟨(k+1,m'),⟨Za,hmg'⟩,Za,Weak.mk (by simp (disch:=omega) only [hch2,go_sem,seval])⟩
   ·have h3:Uo r.visits k=true:=by grind
    rw [if_pos h3] at hch2;refine (AH (nth x.orders (nth r.visits k).order.toNat).now r.typ).use (X8 ?_);refine cD ?_ ?_<;>intro h4<;>simp (disch:=omega) only [Sh.out h4,go_sem,seval,↓reduceIte]
    ·rw [if_pos h4] at hch2;refine (AH (nth x.orders (nth r.visits k).order.toNat).last r.typ).use (X8 ?_);refine ZB ?_ ?_<;>intro h5
     ·rw [if_pos h5] at hch2;exact ⟨(k+1,m'),⟨Za,hmg'⟩,Za,Weak.mk (by simp (disch:=omega) only [hch2,go_sem,seval])⟩
     ·rw [if_neg (by rw [h5];simp)] at hch2;exact ⟨(k+1,m'),⟨Za,hmg'⟩,Za,Weak.mk (by simp (disch:=omega) only [hch2,VX,go_sem,seval])⟩
    ·rw [if_neg (by rw [h4];simp)] at hch2;refine (AH (nth x.orders (nth r.visits k).order.toNat).last r.typ).use (X8 ?_);refine ZB ?_ ?_<;>intro h5
     ·rw [if_pos h5] at hch2;exact ⟨(k+1,m'),⟨Za,hmg'⟩,Za,Weak.mk (by simp (disch:=omega) only [hch2,VX,go_sem,seval])⟩
     ·rw [if_neg (by rw [h5];simp)] at hch2;exact ⟨(k+1,m'),⟨Za,hmg'⟩,Za,Weak.mk (by simp (disch:=omega) only [hch2,VX,go_sem,seval])⟩
  grind
end Go.Proofs.YtiigdaohjanidaaGreatDoor.K
namespace Go.Proofs.YtiigdaohjanidaaGreatDoor.K
open Go Go.AM Go.Proofs
set_option maxRecDepth 8000
set_option maxHeartbeats 8000000
@[go_sem] theorem Zdt {f:FuncId} :(PV.fn f).cells= [.fn f]:=ZP rfl rfl
def Zcb : AM.Obj:= .cells [.p (.bool false),.p (.int .i64 0),.p (.list true []),.p (.int .i64 0),.p (.int .i64 0)]
theorem Nv (x:Inst) (r:Rte) (hx:InstOk x) (hl:r.visits.length<=1048576) (hrl:r.rests.length<=1048576):ACalls Tryz.prog 164 [.p (Zv x),.p (Z0 r)] [] fun y H'=>y=Au x r/\H'= []:=by
 have hld:=UM hx;have htl:=hld.typ;have hol:=hld.ord;have chk:=gG x r hx hl
 have htb:x.types.length<=6:=by have:=hx.types.1;simp only [rng,Zr] at this;omega
 refine Ze [] Tryz.func164 rfl yS ?_;simp (disch:=omega) only [Tryz.f164,go_sem,seval];refine gF ?_ ?_<;>intro h1<;>simp (disch:=omega) only [Sh.out h1,go_sem,seval,↓reduceIte]
 ·have e:X9 x r=2:=by rw [X9,if_pos Za]
  rw [Ym (e:=2) (by rw [Xb,e];rfl) Za];exact we (by simp (disch:=omega) only [zShe,zSco,Zk,go_sem,seval])
 ·refine cD ?_ ?_<;>intro h2<;>simp (disch:=omega) only [Sh.out h2,go_sem,seval,↓reduceIte]
  ·have e:X9 x r=2:=by simp_all [X9]
   rw [Ym (e:=2) (by rw [Xb,e];rfl) Za];exact we (by simp (disch:=omega) only [zShe,zSco,Zk,go_sem,seval])
  ·have hty:0<=r.typ/\r.typ<(x.types.length:Int):=Za
   have hti:r.typ.toNat<x.types.length:=Za
   have hnum:=Kw hx hti;have htyp:nth x.types r.typ.toNat=ZX x r:=rfl;rw [htyp] at hnum
   have hsk: ∀o∈x.orders,o.skills<9223372036854775808:=fun o hm=>by
    obtain ⟨i,hi,rfl⟩:=Z4.1 hm;have:=(hx.orders.2 i hi).skills
    grind [Zj]
   refine Zi [2,3,4,5,25,26] (fun k:Nat=> [(27,.p (.int .i64 k))]) (fun _=> [Zg x,ZK r,Zcb,BT 0 0 0 0,.elems 1 [.fn 218,.fn 219,.fn 220]])
    (fun k=>k<=3/\(0<k->Xr x r.visits=0)/\(1<k-> ¬(r.visits.any fun v=> !WA (ZX x r) (nth x.orders v.order.toNat).skills)=true)/\(2<k->US x (ZX x r).cap r.visits=true)) (fun k=>3-k) 0 ⟨Za,Za,Za,Za⟩ (Weak.mk ?_) ?_
   ·simp (disch:=omega) only [Zg,ZK,BT,Zcb,go_sem,seval]
   ·rintro k ⟨hk,k1,k2,k3⟩;simp (disch:=omega) only [Zg,ZK,BT,Zcb,go_sem,seval];refine cD ?_ ?_<;>intro h3<;>simp (disch:=omega) only [Sh.out h3,go_sem,seval,↓reduceIte]
    ·by_cases hk0:k=0
     ·subst hk0;have he:U6 [PV.fn 218,PV.fn 219,PV.fn 220] 0=PV.fn 218:=rfl;simp (disch:=first | omega | (simp only [Zs,ZH,ZQ,Xp,ZA,Xg]<;>omega)) only [he,go_sem,seval,↓reduceIte];refine (chk).use (X8 ?_);refine ZB ?_ ?_<;>intro h4
      ·have e:X9 x r=Xr x r.visits:=by simp_all [X9]
       rw [Ym (e:=Xr x r.visits) (by simp_all [Xb]) h4];exact we (by simp (disch:=omega) only [zShe,zSco,Zk,go_sem,seval])
      ·exact ⟨1,⟨Za,fun _=>Za,Za,Za⟩,Za,wk⟩
     ·have h0:=k1 Za;have hsq:=VD h0
      have hr0:X9 x r=if (r.visits.any fun v=> !WA (ZX x r) (nth x.orders v.order.toNat).skills)=true then 18 else if US x (ZX x r).cap r.visits=false then 17 else if ¬(0<=r.start/\r.start<=4096/\r.rests.length<=r.visits.length+1) then 2 else 0:=by
       rw [X9,if_neg (fun h=>h hty),if_neg Za]
      by_cases hk1:k=1
      ·subst hk1;have he:U6 [PV.fn 218,PV.fn 219,PV.fn 220] 1=PV.fn 219:=rfl;simp (disch:=first | omega | (simp only [Zs,ZH,ZQ,Xp,ZA,Xg]<;>omega)) only [he,go_sem,seval,↓reduceIte];refine (gD x r hty (fun v hv=>by have:=hsq.inr v hv;grind [Pj]) hl htl Za Za hsk).use (X8 ?_)
       by_cases h5:(r.visits.any fun v=> !WA (ZX x r) (nth x.orders v.order.toNat).skills)=true
       ·rw [if_pos h5] at hr0 ⊢;rw [Ym (e:=18) (by rw [Xb,hr0];rfl) Za];refine X8 ?_;exact we (by simp (disch:=omega) only [zShe,zSco,Zk,go_sem,seval])
       ·rw [if_neg h5];refine X8 ?_;exact ⟨2,⟨Za,fun _=>h0,fun _=>h5,Za⟩,Za,wk⟩
      ·have hk2:k=2:=Za
       subst hk2;have he:U6 [PV.fn 218,PV.fn 219,PV.fn 220] 2=PV.fn 220:=rfl;simp (disch:=first | omega | (simp only [Zs,ZH,ZQ,Xp,ZA,Xg]<;>omega)) only [he,go_sem,seval,↓reduceIte];refine (gA x r hx hl hty h0).use (X8 ?_);rw [if_neg (k2 Za)] at hr0
       cases h5:US x (ZX x r).cap r.visits with
       | false =>
        rw [if_pos h5] at hr0;rw [Ym (e:=17) (by rw [Xb,hr0];rfl) Za];simp only [Wu,Yy];refine X8 ?_;exact we (by simp (disch:=omega) only [zShe,zSco,Zk,go_sem,seval])
       | true =>
        simp only [if_true];refine X8 ?_;exact ⟨3,⟨Za,fun _=>h0,fun _=>k2 Za,fun _=>Zb⟩,Za,wk⟩
    ·have hk3:k=3:=Za
     subst hk3;have h0:=k1 Za;have hsq:=VD h0
     have hr0:X9 x r=if ¬(0<=r.start/\r.start<=4096/\r.rests.length<=r.visits.length+1) then 2 else 0:=by
      rw [X9,if_neg (fun h=>h hty),if_neg Za,if_neg (k2 Za),if_neg (by grind)]
     have cb:=oT x r hx hl hrl hty h0;have hok:=Ku hx hty hsq
     have hbr:Qw x r=XF x r->(XF x r).2=0->(0<=r.start/\r.start<=4096/\r.rests.length<=r.visits.length+1)->(0<=(XF x r).1.fin/\(XF x r).1.fin<=8192)/\(0<=(XF x r).1.miles/\(XF x r).1.miles<=210000):=fun _ hz hs =>
      D4 hok ⟨hs.1,hs.2.1⟩ (by grind [Yg]) hz
     by_cases h6:0<=r.start/\r.start<=4096/\r.rests.length<=r.visits.length+1
     ·have e:X9 x r=0:=Za
      have ee:Xb x r=(XF x r).2:=by rw [Xb,if_pos e]
      have eb:Qw x r=XF x r:=by rw [Qw,if_pos h6]
      have hbr:=fun hz=>hbr eb hz h6;rw [eb] at cb
      have es:XG x r=if (XF x r).2=0 then (XF x r).1 else zShe:=by rw [XG,ee]
      have ep:QB x r=if (XF x r).2=0 then Mt x r (XF x r).1 else zSco:=by rw [QB,ee]
      unfold Au;rw [ee,es,ep];clear ee es ep eb
      generalize XF x r=q at *
      obtain ⟨sh,eb⟩:=q;simp only at cb hbr ⊢;refine X6 cb (X8 ?_);refine cD ?_ ?_<;>intro h7<;>simp (disch:=omega) only [Sh.out h7,go_sem,seval,↓reduceIte]
      ·exact we (by simp (disch:=omega) only [zShe,zSco,Zk,go_sem,seval])
      ·have h7':eb=0:=Za
       try rw [if_pos h7',if_pos h7']
       subst h7';obtain ⟨g1,g2⟩:=hbr rfl;refine Z3 5 mixed Zd Zd (X8 ?_);refine Zq (gE x r sh hty Za htl hl hsq.inr hnum.2.2.2.1 Za Za Za) (X8 ?_);exact we
     ·have e:X9 x r=2:=Za
      have eb:Qw x r=(zShe,2):=by rw [Qw,if_neg h6]
      rw [Ym (e:=2) (by rw [Xb,e];rfl) Za];rw [eb] at cb;refine X6 cb (X8 ?_);exact we (by simp (disch:=omega) only [zShe,zSco,Zk,go_sem,seval])
theorem Un {x:Inst} {r:Rte} (h:Xb x r=0):X9 x r=0:=by
 grind [Xb]
theorem Ud {x:Inst} {r:Rte} (h:X9 x r=0):(0<=r.typ/\r.typ<(x.types.length:Int))/\Xr x r.visits=0/\(0<=r.start/\r.start<=4096/\r.rests.length<=r.visits.length+1):=by
 unfold X9 at h;omega
theorem bS {x:Inst} {r:Rte} (hx:InstOk x) (h:Xb x r=0):(0<=(XG x r).fin/\(XG x r).fin<=8192)/\(0<=(XG x r).miles/\(XG x r).miles<=210000):=by
 obtain ⟨hty,h0,hs⟩:=Ud (Un h)
 have e:XG x r=(XF x r).1:=by rw [XG,if_pos h]
 have ee:(XF x r).2=0:=by rw [Xb,if_pos (Un h)] at h;exact h
 rw [e];exact D4 (Ku hx hty (VD h0)) ⟨hs.1,hs.2.1⟩ (by grind [Yg]) ee
theorem KD {P:Program} {e:TypeId} {k:Nat} {cs:List PV} {kk:IntKind} {n:Int} {x:PV} (h0:0<=n) (h1:n<k) (hx:apart P e cs n.toNat=some x) (ht:YC P e=some 1):IM P (some (.array k e)) (.p (.agg cs)) (.p (.int kk n))=some (.p x):=by
 simp_all [IM]
def Zgx (s:Sco):PV:= .agg [.int .i64 s.cost,.int .i64 s.moved,.int .i64 s.other,.int .i64 s.work]
@[go_sem] theorem Zko (s:Sco):Zgx s= .agg [.int .i64 s.cost,.int .i64 s.moved,.int .i64 s.other,.int .i64 s.work]:=ZP rfl rfl
theorem gI (s:Sco):PC 198 [.p (De s)] (Zgx s):=by
 refine Ze [] Tryz.func198 rfl zQ ?_;simp (disch:=omega) only [Tryz.f198,go_sem,seval];exact we
def scoR (B:Int) (s:Sco):Prop:=(-B<=s.cost/\s.cost<=B)/\(-B<=s.moved/\s.moved<=B)/\(-B<=s.other/\s.other<=B)/\(-B<=s.work/\s.work<=B)
def kW (s:Sco):AM.Obj:= .cells [.p (.int .i64 s.cost),.p (.int .i64 s.moved),.p (.int .i64 s.other),.p (.int .i64 s.work)]
def Wn (s:Sco):Int×Int:=if s.cost<0\/s.moved<0\/s.other<0\/s.work<0 then (0,2) else if 1073741824<s.cost\/16<=s.moved\/16<=s.other\/65536<=s.work then (0,4) else (((s.cost*16+s.moved)*16+s.other)*65536+s.work,0)
theorem GE (s:Sco) (hs:scoR 1152921504606846976 s):PT 152 [.p (De s)] [.p (.int .i64 (Wn s).1),.p (.int .i64 (Wn s).2)]:=by
 obtain ⟨a1,a2,a3,a4⟩:=hs;refine Ze [] Tryz.func152 rfl yK ?_;simp (disch:=omega) only [Tryz.f152,go_sem,seval];refine (gI s).use (X8 ?_);refine Zi [1,9] (fun k:Nat=> [(10,.p (.int .i64 k))]) (fun _=> [kW s,kW s]) (fun k=>k<=4/\(0<k->0<=s.cost)/\(1<k->0<=s.moved)/\(2<k->0<=s.other)/\(3<k->0<=s.work)) (fun k=>4-k) 0 ⟨Za,Za,Za,Za,Za⟩ (Weak.mk ?_) ?_
 ·simp (disch:=omega) only [kW,go_sem,seval]
 ·rintro k ⟨hk,k1,k2,k3,k4⟩;simp (disch:=omega) only [kW,go_sem,seval];refine cD ?_ ?_<;>intro h1<;>simp (disch:=omega) only [Sh.out h1,go_sem,seval,↓reduceIte]
  ·have:k=0\/k=1\/k=2\/k=3:=Za
   rcases this with rfl | rfl | rfl | rfl
   ·rw [KD (x:= .int .i64 s.cost) Za Za (by rfl) Zd];refine X8 ?_;refine ZB ?_ ?_<;>intro h2
    ·have e:Wn s=(0,2):=by simp_all [Wn]
     rw [e];exact we
    ·exact ⟨1,⟨Za,fun _=>Za,Za,Za,Za⟩,Za,wk⟩
   ·rw [KD (x:= .int .i64 s.moved) Za Za (by rfl) Zd];refine X8 ?_;refine ZB ?_ ?_<;>intro h2
    ·have e:Wn s=(0,2):=by simp_all [Wn]
     rw [e];exact we
    ·exact ⟨2,⟨Za,fun _=>k1 Za,fun _=>Za,Za,Za⟩,Za,wk⟩
   ·rw [KD (x:= .int .i64 s.other) Za Za (by rfl) Zd];refine X8 ?_;refine ZB ?_ ?_<;>intro h2
    ·have e:Wn s=(0,2):=by simp_all [Wn]
     rw [e];exact we
    ·exact ⟨3,⟨Za,fun _=>k1 Za,fun _=>k2 Za,fun _=>Za,Za⟩,Za,wk⟩
   ·rw [KD (x:= .int .i64 s.work) Za Za (by rfl) Zd];refine X8 ?_;refine ZB ?_ ?_<;>intro h2
    ·have e:Wn s=(0,2):=by simp_all [Wn]
     rw [e];exact we
    ·exact ⟨4,⟨Za,fun _=>k1 Za,fun _=>k2 Za,fun _=>k3 Za,fun _=>Za⟩,Za,wk⟩
  ·have hk4:k=4:=Za
   subst hk4;have g1:=k1 Za;have g2:=k2 Za;have g3:=k3 Za;have g4:=k4 Za
   have n1: ¬(s.cost<0\/s.moved<0\/s.other<0\/s.work<0):=Za
   have bad:(1073741824<s.cost\/16<=s.moved\/16<=s.other\/65536<=s.work)->Wn s=(0,4):=fun h=>by simp_all [Wn]
   refine gF ?_ ?_<;>intro h2<;>simp (disch:=omega) only [Sh.out h2,go_sem,seval,↓reduceIte]
   ·rw [bad Za];exact we
   ·refine gF ?_ ?_<;>intro h3<;>simp (disch:=omega) only [Sh.out h3,go_sem,seval,↓reduceIte]
    ·rw [bad Za];exact we
    ·refine gF ?_ ?_<;>intro h4<;>simp (disch:=omega) only [Sh.out h4,go_sem,seval,↓reduceIte]
     ·rw [bad Za];exact we
     ·refine cD ?_ ?_<;>intro h5<;>simp (disch:=omega) only [Sh.out h5,go_sem,seval,↓reduceIte]
      ·rw [bad Za];exact we
      ·have e:Wn s=(((s.cost*16+s.moved)*16+s.other)*65536+s.work,0):=by simp_all [Wn,if_neg]
       rw [e];exact we
def unsF (x:Inst) (i:Int):Sco×Int :=
 if i<0\/(x.orders.length:Int)<=i then (zSco,2)
 else if (nth x.orders i.toNat).off=true then (zSco,9)
 else if (nth x.orders i.toNat).penalty= -1 then (zSco,23)
 else (⟨(nth x.orders i.toNat).penalty,if (nth x.orders i.toNat).now= -1 then 0 else 1,0,0⟩,0)
theorem L7 (x:Inst) (i:Int) (ho:x.orders.length<=1048576):PT 151 [.p (Zv x),.p (.int .i64 i)] [.p (De (unsF x i).1),.p (.int .i64 (unsF x i).2)]:=by
 refine Ze [] Tryz.func151 rfl yJ ?_;simp (disch:=omega) only [Tryz.f151,go_sem,seval];refine gF ?_ ?_<;>intro h1<;>simp (disch:=omega) only [Sh.out h1,go_sem,seval,↓reduceIte]
 ·have e:unsF x i=(zSco,2):=by simp_all [unsF]
  rw [e];exact we (by simp (disch:=omega) only [zSco,go_sem,seval])
 ·refine cD ?_ ?_<;>intro h2<;>simp (disch:=omega) only [Sh.out h2,go_sem,seval,↓reduceIte]
  ·have e:unsF x i=(zSco,2):=by simp_all [unsF]
   rw [e];exact we (by simp (disch:=omega) only [zSco,go_sem,seval])
  ·have hi:i.toNat<x.orders.length:=Za
   have n1: ¬(i<0\/(x.orders.length:Int)<=i):=Za
   refine cD ?_ ?_<;>intro h3<;>simp (disch:=omega) only [Sh.out h3,go_sem,seval,↓reduceIte]
   ·have e:unsF x i=(zSco,9):=by simp_all [unsF]
    rw [e];exact we (by simp (disch:=omega) only [zSco,go_sem,seval])
   ·have h3': ¬(nth x.orders i.toNat).off=true:=by rw [h3];simp
    refine cD ?_ ?_<;>intro h4<;>simp (disch:=omega) only [Sh.out h4,go_sem,seval,↓reduceIte]
    ·have e:unsF x i=(zSco,23):=by simp_all [unsF]
     rw [e];exact we (by simp (disch:=omega) only [zSco,go_sem,seval])
    ·refine cD ?_ ?_<;>intro h5<;>simp (disch:=omega) only [Sh.out h5,go_sem,seval,↓reduceIte]
     ·have e:unsF x i=(⟨(nth x.orders i.toNat).penalty,1,0,0⟩,0):=by simp_all [unsF]
      rw [e];exact we
     ·have h5':(nth x.orders i.toNat).now= -1:=Za
      have e:unsF x i=(⟨(nth x.orders i.toNat).penalty,0,0,0⟩,0):=by simp_all [unsF]
      rw [e];exact we
theorem Iw (x:Inst) (i:Int) (ho:x.orders.length<=1048576):PT 50 [.p (Zv x),.p (.int .i64 i)] [.p (De (unsF x i).1),.p (.int .i64 (unsF x i).2)]:=by
 refine Ze [] Tryz.func50 rfl ZhD ?_;simp (disch:=omega) only [Tryz.f50,go_sem,seval];refine gF ?_ ?_<;>intro h1<;>simp (disch:=omega) only [Sh.out h1,go_sem,seval,↓reduceIte]
 ·have e:unsF x i=(zSco,2):=by simp_all [unsF]
  rw [e];exact we (by simp (disch:=omega) only [zSco,go_sem,seval])
 ·refine cD ?_ ?_<;>intro h2<;>simp (disch:=omega) only [Sh.out h2,go_sem,seval,↓reduceIte]
  ·have e:unsF x i=(zSco,2):=by simp_all [unsF]
   rw [e];exact we (by simp (disch:=omega) only [zSco,go_sem,seval])
  ·have hi:i.toNat<x.orders.length:=Za
   have n1: ¬(i<0\/(x.orders.length:Int)<=i):=Za
   refine cD ?_ ?_<;>intro h3<;>simp (disch:=omega) only [Sh.out h3,go_sem,seval,↓reduceIte]
   ·have e:unsF x i=(zSco,9):=by simp_all [unsF]
    rw [e];exact we (by simp (disch:=omega) only [zSco,go_sem,seval])
   ·have h3': ¬(nth x.orders i.toNat).off=true:=by rw [h3];simp
    refine cD ?_ ?_<;>intro h4<;>simp (disch:=omega) only [Sh.out h4,go_sem,seval,↓reduceIte]
    ·have e:unsF x i=(zSco,23):=by simp_all [unsF]
     rw [e];exact we (by simp (disch:=omega) only [zSco,go_sem,seval])
    ·refine cD ?_ ?_<;>intro h5<;>simp (disch:=omega) only [Sh.out h5,go_sem,seval,↓reduceIte]
     ·have e:unsF x i=(⟨(nth x.orders i.toNat).penalty,1,0,0⟩,0):=by simp_all [unsF]
      rw [e];exact we
     ·have h5':(nth x.orders i.toNat).now= -1:=Za
      have e:unsF x i=(⟨(nth x.orders i.toNat).penalty,0,0,0⟩,0):=by simp_all [unsF]
      rw [e];exact we
def Vy (s:Sco):Bool:=decide (0<=s.cost)&&decide (s.cost<=1073741824)&&decide (0<=s.moved)&&decide (s.moved<=15)&&decide (0<=s.other)&&decide (s.other<=15)&&decide (0<=s.work)&&decide (s.work<=65535)
theorem SU (s:Sco):PC 123 [.p (De s)] (.bool (Vy s)):=by
 refine Zc Tryz.func123 rfl xL ?_;simp (disch:=omega) only [Tryz.f123,go_sem,seval];refine gT ?_ ?_<;>intro h1<;>simp (disch:=omega) only [Sh.out h1,go_sem,seval,↓reduceIte]
 ·refine gT ?_ ?_<;>intro h2<;>simp (disch:=omega) only [Sh.out h2,go_sem,seval,↓reduceIte]
  ·refine gT ?_ ?_<;>intro h3<;>simp (disch:=omega) only [Sh.out h3,go_sem,seval,↓reduceIte]
   ·refine gT ?_ ?_<;>intro h4<;>simp (disch:=omega) only [Sh.out h4,go_sem,seval,↓reduceIte]
    ·refine gT ?_ ?_<;>intro h5<;>simp (disch:=omega) only [Sh.out h5,go_sem,seval,↓reduceIte]
     ·refine gT ?_ ?_<;>intro h6<;>simp (disch:=omega) only [Sh.out h6,go_sem,seval,↓reduceIte]
      ·refine gT ?_ ?_<;>intro h7<;>simp (disch:=omega) only [Sh.out h7,go_sem,seval,↓reduceIte]
       ·grind [Vy]
       grind [Vy]
      grind [Vy]
     grind [Vy]
    grind [Vy]
   grind [Vy]
  grind [Vy]
 ·simp [Vy,h1]
theorem Fd (s:Sco) (hs:scoR 1152921504606846976 s):PT 74 [.p (De s)] [.p (.int .i64 (Wn s).1),.p (.int .i64 (Wn s).2)]:=by
 obtain ⟨a1,a2,a3,a4⟩:=hs
 have bad:(s.cost<0\/s.moved<0\/s.other<0\/s.work<0)->Wn s=(0,2):=fun h=>by rw [Wn,if_pos h]
 refine Ze [] Tryz.func74 rfl ZhR ?_;simp (disch:=omega) only [Tryz.f74,go_sem,seval];refine gF ?_ ?_<;>intro h1<;>simp (disch:=omega) only [Sh.out h1,go_sem,seval,↓reduceIte]
 ·rw [bad Za];exact we
 ·refine gF ?_ ?_<;>intro h2<;>simp (disch:=omega) only [Sh.out h2,go_sem,seval,↓reduceIte]
  ·rw [bad Za];exact we
  ·refine gF ?_ ?_<;>intro h3<;>simp (disch:=omega) only [Sh.out h3,go_sem,seval,↓reduceIte]
   ·rw [bad Za];exact we
   ·refine cD ?_ ?_<;>intro h4<;>simp (disch:=omega) only [Sh.out h4,go_sem,seval,↓reduceIte]
    ·rw [bad Za];exact we
    ·have n1: ¬(s.cost<0\/s.moved<0\/s.other<0\/s.work<0):=Za
     refine (SU s).use (X8 ?_);refine cD ?_ ?_<;>intro h5<;>simp (disch:=omega) only [Sh.out h5,go_sem,seval,↓reduceIte]
     ·have e:Wn s=(0,4):=by
       have h6: ¬Vy s=true:=by grind
       rw [Wn,if_neg n1,if_pos];refine Dr fun h7=>h6 ?_;simp [Vy];omega
      rw [e];exact we
     ·have h6:Vy s=true:=by grind
      simp [Vy] at h6
      have e:Wn s=(((s.cost*16+s.moved)*16+s.other)*65536+s.work,0):=by rw [Wn,if_neg n1,if_neg Za]
      rw [e];refine X8 ?_;exact we
theorem ML {x:Inst} (hx:InstOk x) (i:Int):scoR 1073741824 (unsF x i).1:=by
 unfold unsF
 split
 ·simp [scoR,zSco]
 ·split
  ·simp [scoR,zSco]
  ·split
   ·simp [scoR,zSco]
   ·have ha:=(hx.orders.2 i.toNat Za).arg;simp only [argOk,rng,ZG,Zr] at ha
    grind [scoR]
theorem Ae {a:Sco} {B C:Int} (h:B<=C) (ha:scoR B a):scoR C a:=by
 grind [scoR]
theorem F9 {x:Inst} {r:Rte} (hx:InstOk x) (hl:r.visits.length<=1048576) (h:Xb x r=0):scoR 1073741824 (QB x r):=by
 have hg:=bS hx h;obtain ⟨hty,_,_⟩:=Ud (Un h);have hnum:=Kw hx (show r.typ.toNat<x.types.length by omega);have htyp:nth x.types r.typ.toNat=ZX x r:=rfl;rw [htyp] at hnum
 have e:(XF x r).1=XG x r:=by rw [XG,if_pos h]
 have hch:=A4 (x:=x) (l:=r.visits) (t:=r.typ) r.visits.length;rw [QB,if_pos h,e];unfold Mt scoR
 generalize XG x r=s at *
 generalize ZX x r=t at *
 have p1:0<=t.perMile*s.miles/\t.perMile*s.miles<=100*210000:=⟨V7 Za Za,Qg Za Za Za Za⟩
 have hW: -8192<=s.fin-t.opn/\s.fin-t.opn<=8192:=Za
 have p2: -819200<=t.perTick*(s.fin-t.opn)/\t.perTick*(s.fin-t.opn)<=819200:=by
  generalize s.fin-t.opn=w at hW;have a1:=Cq hW.2 (show 0<=t.perTick by omega);have a2:=Cq hW.1 (show 0<=t.perTick by omega);omega
 have p3: -128<=(s.fin-t.opn).tdiv 64/\(s.fin-t.opn).tdiv 64<=128:=by
  grind
 have p4:0<=(s.fin-t.opn).tdiv 64*(s.fin-t.opn).tdiv 64/\(s.fin-t.opn).tdiv 64*(s.fin-t.opn).tdiv 64<=16384:=by
  generalize (s.fin-t.opn).tdiv 64=q at p3;refine ⟨?_,?_⟩
  ·rcases K1 0 q with h | h
   ·exact V7 h h
   ·exact Int.mul_nonneg_of_nonpos_of_nonpos h h
  ·rcases K1 0 q with h | h
   ·have:=Qg p3.2 p3.2 h Za;omega
   ·have h2:0<= -q:=Za
    have:=Qg (show-q<=128 by omega) (show-q<=128 by omega) h2 Za
    grind
 grind
def Ao (x:Inst) (r:Rte):Int×Int:=if Xb x r=0 then Wn (QB x r) else (0,Xb x r)
theorem jI (s:Sco):0<=(Wn s).1/\(Wn s).1<=36028797018963968:=by
 grind [Wn]
theorem L9 (x:Inst) (r:Rte):0<=(Ao x r).1/\(Ao x r).1<=36028797018963968:=by
 unfold Ao
 split
 ·exact jI _
 ·simp
theorem S5 (x:Inst) (r:Rte) (hx:InstOk x) (hb:AK r):PT 237 [.p (Zv x),.p (Z0 r)] [.p (.int .i64 (Ao x r).1),.p (.int .i64 (Ao x r).2)]:=by
 have ce:=Nv x r hx hb.1 hb.2;refine Ze [] Tryz.func237 rfl Zan ?_;simp (disch:=omega) only [Tryz.f237,go_sem,seval];unfold Au at ce;refine G2 ce (X8 ?_);refine cD ?_ ?_<;>intro h1<;>simp (disch:=omega) only [Sh.out h1,go_sem,seval,↓reduceIte]
 ·rw [Ao,if_neg h1];exact we
 ·have h0:Xb x r=0:=Za
  rw [Ao,if_pos h0];refine Y0 (GE (QB x r) (Ae Za (F9 hx hb.1 h0))) (X8 ?_);exact we
theorem Mj (x:Inst) (r:Rte) (hx:InstOk x) (hb:AK r):PT 212 [.p (Zv x),.p (Z0 r)] [.p (.int .i64 (Ao x r).1),.p (.int .i64 (Ao x r).2)]:=by
 have ce:=Jg x r hx hb.1 hb.2;refine Ze [] Tryz.func212 rfl zS ?_;simp (disch:=omega) only [Tryz.f212,go_sem,seval];unfold Au at ce;refine G2 ce (X8 ?_);refine cD ?_ ?_<;>intro h1<;>simp (disch:=omega) only [Sh.out h1,go_sem,seval,↓reduceIte]
 ·rw [Ao,if_neg h1];exact we
 ·have h0:Xb x r=0:=Za
  rw [Ao,if_pos h0];refine Y0 (Fd (QB x r) (Ae Za (F9 hx hb.1 h0))) (X8 ?_);exact we
def UF (a b:Col):Bool:=if a.price≠b.price then decide (a.price<b.price) else decide (Vp a.route.visits b.route.visits<0)
def C1 (x:Inst) (S:Nat) (l:List Vis):List Vis:=nextU x S l x.orders.length
def Qq (x:Inst) (S:Nat):Nat:=FM x S x.orders.length
theorem oF {x:Inst} {S:Nat} {l:List Vis} (h:Gr x S l) (hl:l.length=Qq x S):C1 x S l= []:=by
 cases e:C1 x S l with
 | nil=>rfl
 | cons v r =>
  exfalso
  have hv:v∈nextU x S l x.orders.length:=by
   grind [C1]
  obtain ⟨i,hi,h1,h2,h3,h4⟩:=QL.1 hv;exact ((Ux h3).1 h4).1 (h.full hl v (QK.2 ⟨i,hi,h1,h3⟩))
theorem GZ {ok:List Vis->Bool} {col:List Vis->Col} {better:Col->Col->Bool} : ∀ {L:List (List Vis)} {b:Col×Bool},(∀l∈L,ok l=false)->L.foldl (Yl ok col better) b=b
 | [],_,_=>rfl
 | l::L,b,h=>by
  rw [Qc,Yl,if_neg (by rw [h l Zb];simp)];exact GZ fun m hm=>h m (Yv _ hm)
theorem Lq {x:Inst} {r:Rte} (h:Xb x r=0):RightV x r.visits:=by
 rw [<- SW]
 have h1:X9 x r=0:=by
  grind [Xb]
 unfold X9 at h1;omega
def Je (rs:List Rte) (i:Nat):Int:=(rs.countP fun r=>hasO r.visits (i:Int):Nat)
def Vo (us:List Int) (i:Nat):Int:=(us.countP fun u=>decide (u=(i:Int)):Nat)
def D9 (rs:List Rte) (i:Nat):Int:=(rs.countP fun r=>decide (r.typ=(i:Int)):Nat)
theorem RL {rs:List Rte} {k:Nat} (h:k<rs.length) (i:Nat):Je (rs.take (k+1)) i=if hasO (nth rs k).visits (i:Int)=true then Je (rs.take k) i+1 else Je (rs.take k) i:=by
 grind [Je,Zx,Zj]
theorem RN {us:List Int} {k:Nat} (h:k<us.length) (i:Nat):Vo (us.take (k+1)) i=if nth us k=(i:Int) then Vo (us.take k) i+1 else Vo (us.take k) i:=by
 grind [Vo,Zx,Zj]
theorem RM {rs:List Rte} {k:Nat} (h:k<rs.length) (i:Nat):D9 (rs.take (k+1)) i=if (nth rs k).typ=(i:Int) then D9 (rs.take k) i+1 else D9 (rs.take k) i:=by
 grind [D9,Zx,Zj]
theorem Le {rs:List Rte} {k:Nat} (i:Nat):0<=Je (rs.take k) i/\Je (rs.take k) i<=rs.length:=by
 grind [ZA,Je]
theorem Lf {us:List Int} {k:Nat} (i:Nat):0<=Vo (us.take k) i/\Vo (us.take k) i<=us.length:=by
 grind [ZA,Vo]
theorem bF {rs:List Rte} {k:Nat} (i:Nat):0<=D9 (rs.take k) i/\D9 (rs.take k) i<=rs.length:=by
 grind [ZA,D9]
def Tl (x:Inst) (us:List Int):Bool:=us.all fun u=>decide (0<=u)&&decide (u<(x.orders.length:Int))
def errR (x:Inst):List Rte->Int
 | []=>0
 | r::l=>if Xb x r=0 then errR x l else Xb x r
theorem HG {x:Inst} : ∀ {l:List Rte} {k:Nat},k<l.length->(∀j,j<k->Xb x (nth l j)=0)-> ¬Xb x (nth l k)=0->errR x l=Xb x (nth l k)
 | r::l,0,_,_,h=>by rw [errR,if_neg (show ¬Xb x r=0 from h)];rfl
 | r::l,k+1,hk,h0,h=>by
  rw [errR,if_pos (show Xb x r=0 from h0 0 Za)];exact HG (l:=l) (k:=k) (by grind) (fun j hj=>h0 (j+1) Za) h
theorem HH {x:Inst} : ∀ {l:List Rte},(∀j,j<l.length->Xb x (nth l j)=0)->errR x l=0
 | [],_=>rfl
 | r::l,h=>by
  rw [errR,if_pos (show Xb x r=0 from h 0 Zb)];exact HH fun j hj=>h (j+1) (by grind)
end Go.Proofs.YtiigdaohjanidaaGreatDoor.K
