/- Declarations that the closing texts need, part 21: joined by tools/slim.py. -/
import Derived.Test.YtiigdaohjanidaaGreatDoorP20
set_option linter.unusedVariables false
set_option linter.unusedSimpArgs false
namespace Go.Proofs.YtiigdaohjanidaaGreatDoor.K
open Go Go.AM Go.Proofs
set_option maxRecDepth 8000
set_option maxHeartbeats 8000000
def QF (l:List Pt) (t:Int) (i:Nat):Bool:=decide ((nth l i).t<=t)&&decide (t<(nth l (i+1)).t)
def GM (p q:Pt) (t:Int):Int:=p.a+((t-p.t)*(q.a-p.a)+q.t-p.t-1) / (q.t-p.t)
def Jh (l:List Pt) (t:Int):Int:=match (List.range (l.length-1)).find? (QF l t) with
 | some i=>GM (nth l i) (nth l (i+1)) t
 | none=>if (nth l 0).t<t then t+(nth l (l.length-1)).a-(nth l (l.length-1)).t else t+(nth l 0).a-(nth l 0).t
theorem Is {l:List Pt} {t:Int} {i:Nat} (hi:i+1<l.length) (hno: ∀j,j<i->QF l t j=false) (h:QF l t i=true):Jh l t=GM (nth l i) (nth l (i+1)) t:=by
 have:(List.range (l.length-1)).find? (QF l t)=some i:=by
  grind [List.find?_eq_some_iff_getElem]
 rw [Jh,this]
theorem D1 {l:List Pt} {t:Int} (hno: ∀j,j+1<l.length->QF l t j=false):Jh l t=if (nth l 0).t<t then t+(nth l (l.length-1)).a-(nth l (l.length-1)).t else t+(nth l 0).a-(nth l 0).t:=by
 grind [Jh]
theorem F2 {p q:Pt} {t:Int} (h1:p.t<=t) (h2:t<q.t) (hp:0<=p.t) (hq:q.t<=4096) (ha:p.a<=q.a) (hpa:0<=p.a) (hqa:q.a<=8192):0<=(t-p.t)*(q.a-p.a)/\(t-p.t)*(q.a-p.a)<=33554432:=by
 refine ⟨Uj Za Za,?_⟩;have:(t-p.t)*(q.a-p.a)<=4096*8192:=Vy Za Za Za Za;omega
theorem Ot (l:List Pt) (c:Bool) (t:Int) (hl:WZ l) (ht:0<=t/\t<=1073741824):PC 324 [.p (.list c (l.map Hd)),.p (.int .i64 t)] (.int .i64 (Jh l t)):=by
 obtain ⟨⟨hl1,hl2⟩,hpt⟩:=hl;refine Zd Tryz.func324 rfl ZcO ?_;simp (disch:=omega) only [Tryz.f324,go_sem,seval];refine ((eL l c Za).frozenE).useV fun m hm=>Zc ?_
 have hm0:m.length=0:=by rw [hm.emp.2 ⟨⟨hl1,hl2⟩,hpt⟩];rfl
 have e1: ¬t<0:=Za
 have e2: ¬ 1073741824<t:=Za
 simp (disch:=omega) only [hm0,e1,e2,go_sem,seval];refine Zk [0,1] (fun k:Nat=> [(5,.p (.int .i64 k))]) (fun _=> []) (fun k=>k<l.length/\ ∀j,j<k->QF l t j=false) (fun k=>l.length-k) 0 (by simp;omega) (Weak.mk ?_) ?_
 ·simp (disch:=omega) only [go_sem,seval,↓reduceIte]
 ·rintro k ⟨hk,hno⟩;refine Zc ?_;refine cD ?_ ?_<;>intro h<;>simp (disch:=omega) only [Sh.out h,go_sem,seval,↓reduceIte]
  ·have hk2:k+1<l.length:=Za
   obtain ⟨⟨p1,p2,p3,p4⟩,_⟩:=hpt k hk;obtain ⟨⟨q1,q2,q3,q4⟩,q5⟩:=hpt (k+1) hk2;obtain ⟨r1,r2⟩:=q5 Za;rw [Nat.add_sub_cancel] at r1 r2;refine gT ?_ ?_<;>intro h2<;>simp (disch:=omega) only [Sh.out h2,go_sem,seval,↓reduceIte]
   ·refine cD ?_ ?_<;>intro h3<;>simp (disch:=omega) only [Sh.out h3,go_sem,seval,↓reduceIte]
    ·have hsg:QF l t k=true:=by simp [QF,h2,h3]
     rw [Is hk2 hno hsg];obtain ⟨s1,s2⟩:=F2 h2 h3 p1 q2 r2 Za Za;have d1:0<=((t-(nth l k).t)*((nth l (k+1)).a-(nth l k).a)+(nth l (k+1)).t-(nth l k).t-1) / ((nth l (k+1)).t-(nth l k).t):=Int.ediv_nonneg Za Za;have d2:((t-(nth l k).t)*((nth l (k+1)).a-(nth l k).a)+(nth l (k+1)).t-(nth l k).t-1) / ((nth l (k+1)).t-(nth l k).t)<=33558528:=Av (Int.ediv_le_self _ Za) Za
     have d3: ¬(nth l (k+1)).t-(nth l k).t=0:=Za
     simp only [GM];refine Xr ?_;simp (disch:=omega) only [go_sem,seval,↓reduceIte]
    ·have hsg:QF l t k=false:=by simp [QF,h3]
     exact ⟨k+1,⟨Za,Zm.2 ⟨hno,hsg⟩⟩,Za,wk⟩
   ·have hsg:QF l t k=false:=by simp [QF,h2]
    exact ⟨k+1,⟨Za,Zm.2 ⟨hno,hsg⟩⟩,Za,wk⟩
  ·have hkl:k+1=l.length:=Za
   rw [D1 (fun j hj=>hno j Za)];obtain ⟨⟨p1,p2,p3,p4⟩,_⟩:=hpt 0 Za;obtain ⟨⟨q1,q2,q3,q4⟩,_⟩:=hpt (l.length-1) Za
   have i1:((l.length:Int)-1).toNat=l.length-1:=Za
   refine cD ?_ ?_<;>intro h2<;>simp (disch:=omega) only [Sh.out h2,go_sem,seval,↓reduceIte]
theorem ZF {α:Type} [Inhabited α] {l:List α} {i:Nat} (h:i<l.length):nth l i∈l:=by grind [Zi]
def nZ (a:Arc):Prop:=WZ a.travel/\a.slow.length<=16/\ ∀p∈a.slow,0<=p.t/\p.t<=4096/\0<=p.a/\p.a<=4096
def J6 (l:List Pt) (t:Int) (k:Nat):Int:=(l.take k).foldl (fun s p=>if p.t<=t then s+p.a else s) 0
def Ir (a:Arc) (t:Int):Int:=Jh a.travel t+J6 a.slow t a.slow.length
theorem Bq {l:List Pt} {t:Int} {k:Nat} (h:k<l.length):J6 l t (k+1)=if (nth l k).t<=t then J6 l t k+(nth l k).a else J6 l t k:=by
 grind [J6,Xl,Zi]
theorem Q4 {l:List Pt} {t:Int} (hl: ∀p∈l,0<=p.a/\p.a<=4096): ∀k,k<=l.length->0<=J6 l t k/\J6 l t k<=4096*k
 | 0,_=>by simp [J6]
 | k+1,h=>by
  have ih:=Q4 (t:=t) hl k Za
  grind [ZF,Bq]
theorem EP {l:List Pt} {t:Int} (hl:WZ l) (ht:0<=t/\t<=1073741824):0<=Jh l t/\Jh l t<=1107304448:=by
 obtain ⟨⟨hl1,hl2⟩,hpt⟩:=hl;unfold Jh
 split
 ·rename_i i hi;have hm:=VO hi;have hs:=Uv hi;simp at hm;simp only [QF,Zy,Zp] at hs;obtain ⟨⟨p1,p2,p3,p4⟩,_⟩:=hpt i Za;obtain ⟨⟨q1,q2,q3,q4⟩,q5⟩:=hpt (i+1) Za;obtain ⟨r1,r2⟩:=q5 Za;rw [Nat.add_sub_cancel] at r1 r2;obtain ⟨s1,s2⟩:=F2 hs.1 hs.2 p1 q2 r2 Za Za;have d1:0<=((t-(nth l i).t)*((nth l (i+1)).a-(nth l i).a)+(nth l (i+1)).t-(nth l i).t-1) / ((nth l (i+1)).t-(nth l i).t):=Int.ediv_nonneg Za Za;have d2:((t-(nth l i).t)*((nth l (i+1)).a-(nth l i).a)+(nth l (i+1)).t-(nth l i).t-1) / ((nth l (i+1)).t-(nth l i).t)<=33558528:=Av (Int.ediv_le_self _ Za) Za
  unfold GM;omega
 ·obtain ⟨⟨p1,p2,p3,p4⟩,_⟩:=hpt 0 Za;obtain ⟨⟨q1,q2,q3,q4⟩,_⟩:=hpt (l.length-1) Za;omega
theorem Ou (a:Arc) (t:Int) (ha:nZ a) (ht:0<=t/\t<=1073741824):PC 320 [.p (WV a),.p (.int .i64 t)] (.int .i64 (Ir a t)):=by
 obtain ⟨h1,h2,h3⟩:=ha;have hr:=EP h1 ht;have hs:=Q4 (t:=t) (fun p hp=>(h3 p hp).2.2);refine Zd Tryz.func320 rfl ZcK ?_;simp (disch:=omega) only [Tryz.f320,go_sem,seval];refine (Ot a.travel a.travel_c t h1 ht).use (Zc ?_);refine Zk [1,2] (fun k:Nat=> [(5,.p (.int .i64 (Jh a.travel t+J6 a.slow t k))),(6,.p (.int .i64 k))]) (fun _=> [W6 a]) (fun k=>k<=a.slow.length) (fun k=>a.slow.length-k) 0 Zb (Weak.mk ?_) ?_
 ·simp (disch:=omega) only [W6,J6,VW,go_sem,seval];simp
 ·intro k hk;have hsk:=hs k hk;simp (disch:=omega) only [W6,go_sem,seval];refine cD ?_ ?_<;>intro h<;>simp (disch:=omega) only [Sh.out h,go_sem,seval,↓reduceIte]
  ·have hk2:k<a.slow.length:=Za
   have hp:=h3 _ (ZF hk2);have hsn:=Bq (t:=t) hk2;refine ZI ?_ ?_<;>intro h4
   ·rw [if_pos h4] at hsn;exact ⟨k+1,Za,Za,Weak.mk (by simp (disch:=omega) only [hsn,Int.add_assoc,go_sem,seval])⟩
   ·rw [if_neg h4] at hsn;exact ⟨k+1,Za,Za,Weak.mk (by simp (disch:=omega) only [hsn,go_sem,seval])⟩
  grind [Ir]
theorem Gi {g:FuncId} {args:List V} {a b c:PV} {H:List AM.Obj} {K:V->List AM.Obj->Prop} (h:ACalls Tryz.prog g args [] fun x H'=>x= .tup [.p a,.p b,.p c]/\H'= []) (k:K (.tup [.p a,.p b,.p c]) H) (ha:Z9 0 args=true:=by rfl):ACalls Tryz.prog g args H K :=
 (h.behind ha H).mono fun x H' hq=>by
  obtain ⟨y,H1,⟨rfl,rfl⟩,rfl,rfl⟩:=hq
  grind [shV,shVs]
theorem Yd {g:FuncId} {args:List V} {a b:PV} {H:List AM.Obj} {K:V->List AM.Obj->Prop} (h:ACalls Tryz.prog g args [] fun x H'=>x= .tup [.p a,.p b]/\H'= []) (k:K (.tup [.p a,.p b]) H) (ha:Z9 0 args=true:=by rfl):ACalls Tryz.prog g args H K :=
 (h.behind ha H).mono fun x H' hq=>by
  obtain ⟨y,H1,⟨rfl,rfl⟩,rfl,rfl⟩:=hq
  grind [shV,shVs]
def KG (n:Net) (p:Int):Bool:=decide (0<=p)&&decide (p<(n.places.length:Int))
theorem HI (n:Net) (p:Int) (hn:n.places.length<=1048576):PC 318 [.p (BQ n),.p (.int .i64 p)] (.bool (KG n p)):=by
 refine Zd Tryz.func318 rfl ZcI ?_;simp (disch:=omega) only [Tryz.f318,go_sem,seval];refine gT ?_ ?_<;>intro h<;>simp (disch:=omega) only [Sh.out h,go_sem,seval,↓reduceIte]
 ·simp [KG,h]
 ·simp [KG,h]
def Vr (pr f t:Int) (a:Arc):Bool:=decide (a.src=f)&&decide (a.dst=t)&&decide (a.prof=pr)
def V0 : Arc:=⟨0,0,0,0,true,[],true,[]⟩
def WM (n:Net) (pr f t:Int):Arc×Bool:=match n.arcs.find? (Vr pr f t) with | some a=>(a,true) | none=>(V0,false)
theorem MG {n:Net} {pr f t:Int} {k:Nat} (hk:k<n.arcs.length) (hno: ∀j,j<k->Vr pr f t (nth n.arcs j)=false) (h:Vr pr f t (nth n.arcs k)=true):WM n pr f t=(nth n.arcs k,true):=by
 have:n.arcs.find? (Vr pr f t)=some (nth n.arcs k):=by
  grind [List.find?_eq_some_iff_getElem,Zi]
 rw [WM,this]
theorem MH {n:Net} {pr f t:Int} (hno: ∀j,j<n.arcs.length->Vr pr f t (nth n.arcs j)=false):WM n pr f t=(V0,false):=by
 have:n.arcs.find? (Vr pr f t)=none:=by
  rw [Am];intro a ha;obtain ⟨j,hj,rfl⟩:=ZU.1 ha
  grind [Zi]
 rw [WM,this]
theorem fP (n:Net) (pr f t:Int) (hn:n.arcs.length<=1048576):PT 319 [.p (BQ n),.p (.int .i64 pr),.p (.int .i64 f),.p (.int .i64 t)] [.p (WV (WM n pr f t).1),.p (.bool (WM n pr f t).2)]:=by
 refine Zf [] Tryz.func319 rfl ZcJ ?_;simp (disch:=omega) only [Tryz.f319,go_sem,seval];refine Zk [1,2,3,4,8] (fun k:Nat=> [(10,.p (.int .i64 k))]) (fun _=>Z7 n++ [W6 V0]) (fun k=>k<=n.arcs.length/\ ∀j,j<k->Vr pr f t (nth n.arcs j)=false) (fun k=>n.arcs.length-k) 0 Zb (Weak.mk ?_) ?_
 ·simp (disch:=omega) only [Z7,W6,V0,Zn,ZW,ZM,go_sem,seval]
 ·rintro k ⟨hk,hno⟩;simp (disch:=omega) only [Z7,W6,V0,Zn,ZW,ZM,go_sem,seval];refine cD ?_ ?_<;>intro h<;>simp (disch:=omega) only [Sh.out h,go_sem,seval,↓reduceIte]
  ·have hk2:k<n.arcs.length:=Za
   have nx:Vr pr f t (nth n.arcs k)=false-> ∀j,j<k+1->Vr pr f t (nth n.arcs j)=false:=fun h=>Zm.2 ⟨hno,h⟩;refine Bb ?_ ?_<;>intro h1
   ·refine Bb ?_ ?_<;>intro h2
    ·refine ZI ?_ ?_<;>intro h3
     ·have e:=MG hk2 hno (by grind [Vr]);rw [e];exact we
     ·exact ⟨k+1,⟨Za,nx (by simp [Vr,h3])⟩,Za,wk⟩
    ·exact ⟨k+1,⟨Za,nx (by simp [Vr,h2])⟩,Za,wk⟩
   ·exact ⟨k+1,⟨Za,nx (by simp [Vr,h1])⟩,Za,wk⟩
  ·have hkn:k=n.arcs.length:=Za
   subst hkn;rw [MH hno];exact we (by simp (disch:=omega) only [V0,Zn,go_sem,seval])
def Ug (n:Net) (pr f t τ:Int):Int×Int×Int :=
 if (KG n f&&KG n t)=false then (0,0,11) else if f=t then (τ,0,0) else if (WM n pr f t).2=true then (Ir (WM n pr f t).1 τ,(WM n pr f t).1.miles,0) else (0,0,12)
def netR (n:Net):Prop:=n.places.length<=1048576/\n.arcs.length<=1048576/\ ∀a∈n.arcs,nZ a
theorem Ad {n:Net} {pr f t:Int} (h:(WM n pr f t).2=true):(WM n pr f t).1∈n.arcs:=by
 grind [WM]
theorem zZ (n:Net) (pr f t τ:Int) (hn:netR n) (hτ:0<=τ/\τ<=1073741824):PT 307 [.p (BQ n),.p (.int .i64 pr),.p (.int .i64 f),.p (.int .i64 t),.p (.int .i64 τ)] [.p (.int .i64 (Ug n pr f t τ).1),.p (.int .i64 (Ug n pr f t τ).2.1),.p (.int .i64 (Ug n pr f t τ).2.2)]:=by
 refine Zf [] Tryz.func307 rfl Zcx ?_;simp (disch:=omega) only [Tryz.f307,go_sem,seval];refine (HI n f hn.1).use (Zc ?_);refine gF ?_ ?_<;>intro h1<;>simp (disch:=omega) only [Sh.out h1,go_sem,seval,↓reduceIte]
 ·have e:Ug n pr f t τ=(0,0,11):=by grind [Ug]
  rw [e];exact we
 ·simp only [XN] at h1;refine (HI n t hn.1).use (Zc ?_);refine cD ?_ ?_<;>intro h2<;>simp (disch:=omega) only [Sh.out h2,go_sem,seval]
  ·have e:Ug n pr f t τ=(0,0,11):=by grind [Ug]
   rw [e];exact we
  ·simp only [XN] at h2;refine cD ?_ ?_<;>intro h3<;>simp (disch:=omega) only [Sh.out h3,go_sem,seval,↓reduceIte]
   ·have e:Ug n pr f t τ=(τ,0,0):=by grind [Ug]
    rw [e];exact we
   ·have cf:=fP n pr f t hn.2.1;have hm:= @Ad n pr f t
    have e0:Ug n pr f t τ=if (WM n pr f t).2=true then (Ir (WM n pr f t).1 τ,(WM n pr f t).1.miles,0) else (0,0,12):=by grind [Ug]
    rw [e0];generalize WM n pr f t=A at cf hm ⊢;obtain ⟨a,b⟩:=A;simp only at cf hm ⊢;refine Yd cf (Zc ?_);refine cD ?_ ?_<;>intro h4<;>simp (disch:=omega) only [Sh.out h4,go_sem,seval]
    ·have hb:b=false:=by grind
     subst hb;exact we (by simp (disch:=omega) only [go_sem,seval,↓reduceIte])
    ·have hb:b=true:=by grind
     subst hb;refine Xr (Zc ?_);refine Zr (Ou a τ (hn.2.2 a (hm rfl)) hτ) (Zc ?_);exact we
theorem tP (x:Inst) (pr f t τ:Int) (hn:netR x.net) (hτ:0<=τ/\τ<=1073741824):PT 284 [.p (ZE x),.p (.int .i64 pr),.p (.int .i64 f),.p (.int .i64 t),.p (.int .i64 τ)] [.p (.int .i64 (Ug x.net pr f t τ).1),.p (.int .i64 (Ug x.net pr f t τ).2.1),.p (.bool (decide ((Ug x.net pr f t τ).2.2=0)))]:=by
 refine Zf [] Tryz.func284 rfl Zcd ?_;simp (disch:=omega) only [Tryz.f284,go_sem,seval];refine Gi (zZ x.net pr f t τ hn hτ) (Zc ?_);exact we
structure StD where
 place:Int
 time:Int
 driven:Int
 miles:Int
def fG (s:StD):PV:= .agg [.int .i64 s.place,.int .i64 s.time,.int .i64 s.driven,.int .i64 s.miles]
@[go_sem] theorem ZlH (s:StD):fG s= .agg [.int .i64 s.place,.int .i64 s.time,.int .i64 s.driven,.int .i64 s.miles]:=Zl rfl rfl
def FO (t:Typ) (s:StD) (b:Bool):StD:=if b=true then { s with time:=s.time+t.rest,driven:=0 } else s
theorem Nx (t:Typ) (s:StD) (b:Bool) (hb: -1099511627776<=s.time/\s.time<=1099511627776/\ -1099511627776<=t.rest/\t.rest<=1099511627776):PC 249 [.p (WW t),.p (fG s),.p (.bool b)] (fG (FO t s b)):=by
 refine Zd Tryz.func249 rfl ZbP ?_
 cases b with
 | true=>simp (disch:=omega) only [Tryz.f249,FO,go_sem,seval,↓reduceIte]
 | false=>simp (disch:=omega) only [Tryz.f249,FO,Yi,go_sem,seval,↓reduceIte]
def Q5 (x:Inst) (t:Typ) (s:StD) (to cl late:Int):StD×Int :=
 if ¬(Ug x.net t.prof s.place to s.time).2.2=0 then (s,12)
 else if cl<(Ug x.net t.prof s.place to s.time).1 then (s,late)
 else if t.drive<s.driven+(Ug x.net t.prof s.place to s.time).1-s.time then (s,16)
 else (⟨to,(Ug x.net t.prof s.place to s.time).1,s.driven+(Ug x.net t.prof s.place to s.time).1-s.time,s.miles+(Ug x.net t.prof s.place to s.time).2.1⟩,0)
def cG (n:Int):Prop:= -1099511627776<=n/\n<=1099511627776
theorem NU (x:Inst) (t:Typ) (s:StD) (to cl late:Int) (hn:netR x.net) (hs:0<=s.time/\s.time<=1073741824) (hd:cG s.driven) (hm:cG s.miles) (hg:cG (Ug x.net t.prof s.place to s.time).1/\cG (Ug x.net t.prof s.place to s.time).2.1) :
  PT 250 [.p (ZE x),.p (WW t),.p (fG s),.p (.int .i64 to),.p (.int .i64 cl),.p (.int .i64 late)] [.p (fG (Q5 x t s to cl late).1),.p (.int .i64 (Q5 x t s to cl late).2)]:=by
 have cw:=tP x t.prof s.place to s.time hn hs;unfold Q5;generalize Ug x.net t.prof s.place to s.time=g at cw hg ⊢;obtain ⟨a,m,e⟩:=g;unfold cG at hd hm hg;simp only at cw hg ⊢;refine Zf [] Tryz.func250 rfl ZbQ ?_;simp (disch:=omega) only [Tryz.f250,go_sem,seval];refine Gi cw (Zc ?_);refine cD ?_ ?_<;>intro h1<;>simp (disch:=omega) only [Sh.out h1,go_sem,seval,↓reduceIte]
 ·exact we
 ·rw [if_neg h1];refine cD ?_ ?_<;>intro h2<;>simp (disch:=omega) only [Sh.out h2,go_sem,seval,↓reduceIte]
  ·exact we
  ·rw [if_neg h2];refine cD ?_ ?_<;>intro h3<;>simp (disch:=omega) only [Sh.out h3,go_sem,seval,↓reduceIte]
   ·exact we
   ·exact we
structure Lab where
 ready:Int
 since:Int
 she:She
 deriving Inhabited
def zShe : She:=⟨false,0,true,[],0,0⟩
def WJ : Lab:=⟨0,0,zShe⟩
def ZJ (t:Typ) (L:Lab) (b:Bool):Int:=if b=true then L.ready+t.rest else L.ready
def W0 (L:Lab) (b:Bool):Int:=if b=true then 0 else L.since
def RQ (l:List Tim) (k:Nat) (d:Int) (b:Bool):List Tim:=l.set k { nth l k with dep:=d,rest:=b }
def XF (k:Nat) (d:Int) (b:Bool) (s:She):She:=if k=0 then { s with rest:=b,dep:=d } else { s with times:=RQ s.times (k-1) d b }
def Ka (t:Typ) (sp:List Stp) (k:Nat):Int:=if k=0 then t.src else (nth sp (k-1)).place
def bX (t:Typ) (sp:List Stp) (k:Nat):Int:=if k=sp.length then t.dst else (nth sp k).place
def YY (x:Inst) (t:Typ) (sp:List Stp) (k:Nat) (d:Int):Int×Int×Int:=Ug x.net t.prof (Ka t sp k) (bX t sp k) d
def Wm (t:Typ) (sp:List Stp) (k:Nat) (g:Int×Int×Int) (d s:Int) (h:She):Lab×Int :=
 if ¬g.2.2=0 then (WJ,12)
 else if k=sp.length then
  if t.cls<g.1 then (WJ,15) else if t.drive<s+g.1-d then (WJ,16)
  else (⟨g.1,s+g.1-d,{ h with fin:=g.1,miles:=h.miles+g.2.1 }⟩,0)
 else if (nth sp k).cls<max g.1 (nth sp k).opn then (WJ,14)
 else if t.drive<s+g.1-d then (WJ,16)
 else (⟨max g.1 (nth sp k).opn+(nth sp k).serv,s+g.1-d,{ h with times_c:=false,times:=h.times++ [⟨g.1,max g.1 (nth sp k).opn,0,false⟩],miles:=h.miles+g.2.1 }⟩,0)
def XX (x:Inst) (t:Typ) (sp:List Stp) (k:Nat) (L:Lab) (b:Bool):Lab×Int :=
 Wm t sp k (YY x t sp k (ZJ t L b)) (ZJ t L b) (W0 L b) (XF k (ZJ t L b) b L.she)
def XP (x:Inst) (t:Typ) (sp:List Stp) (k:Nat) (L:Lab) (b:Bool):Option Lab:=if (XX x t sp k L b).2=0 then some (XX x t sp k L b).1 else none
def Xa (x:Inst) (t:Typ) (sp:List Stp):Nat->Lab->List Bool->Lab×Int
 | _,L,[]=>(L,0)
 | k,L,b::bs=>if (XX x t sp k L b).2=0 then Xa x t sp (k+1) (XX x t sp k L b).1 bs else (WJ,(XX x t sp k L b).2)
def Xk (t:Typ) (st:Int):Lab:=⟨max t.opn st,0,zShe⟩
theorem Y9 {x:Inst} {t:Typ} {sp:List Stp} : ∀(bs:List Bool) (k:Nat) (L:Lab),WT (XP x t sp) k L bs=if (Xa x t sp k L bs).2=0 then some (Xa x t sp k L bs).1 else none
 | [],k,L=>by rfl
 | b::bs,k,L=>by
  rw [WT,Xa,XP]
  by_cases h:(XX x t sp k L b).2=0
  ·simp only [h,if_true];exact Y9 bs (k+1) _
  ·simp [h]
structure TrpOk (x:Inst) (t:Typ) (sp:List Stp):Prop where
 net:netR x.net
 mil: ∀a∈x.net.arcs,0<=a.miles/\a.miles<=10000
 opn:0<=t.opn/\t.opn<=t.cls/\t.cls<=4096
 drv:1<=t.drive/\t.drive<=4096
 rst:0<=t.rest/\t.rest<=4096
 stp: ∀s∈sp,0<=s.opn/\s.opn<=s.cls/\s.cls<=4096/\0<=s.serv/\s.serv<=4096
 len:sp.length<=20
structure LabR (k:Nat) (L:Lab):Prop where
 rdy:0<=L.ready/\L.ready<=8192
 snc: -(12288*(k:Int))<=L.since/\L.since<=4096
 mil:0<=L.she.miles/\L.she.miles<=10000*(k:Int)
theorem qM {n:Net} {pr f t τ:Int} (hn:netR n) (hm: ∀a∈n.arcs,0<=a.miles/\a.miles<=10000) (hτ:0<=τ/\τ<=1073741824):(0<=(Ug n pr f t τ).1/\(Ug n pr f t τ).1<=1107369984)/\(0<=(Ug n pr f t τ).2.1/\(Ug n pr f t τ).2.1<=10000):=by
 unfold Ug
 split
 ·simp
 ·split
  ·grind
  ·split
   ·rename_i h;have hA:=Ad h;have h1:=EP (hn.2.2 _ hA).1 hτ;have h2:=Q4 (t:=τ) (fun p hp=>((hn.2.2 _ hA).2.2 p hp).2.2) _ (Zv _);have h3:=(hn.2.2 _ hA).2.1
    grind [Ir]
   ·simp
theorem Kl {x t sp k L} (h:TrpOk x t sp) (hl:LabR k L) (b:Bool):0<=ZJ t L b/\ZJ t L b<=12288:=by
 have:=h.rst;have:=hl.rdy
 grind [ZJ]
theorem F6 {k L} (hl:LabR k L) (b:Bool): -(12288*(k:Int))<=W0 L b/\W0 L b<=4096:=by
 have:=hl.snc
 grind [W0]
theorem IY {x t sp k L} (h:TrpOk x t sp) (hl:LabR k L) (b:Bool):(0<=(YY x t sp k (ZJ t L b)).1/\(YY x t sp k (ZJ t L b)).1<=1107369984)/\(0<=(YY x t sp k (ZJ t L b)).2.1/\(YY x t sp k (ZJ t L b)).2.1<=10000):=by
 have:=Kl h hl b;exact qM h.net h.mil Za
theorem Kv {k d b s} :(XF k d b s).miles=s.miles:=by grind [XF]
theorem HA {k d b s} :(XF k d b s).fin=s.fin:=by grind [XF]
theorem AA {k d b s} :(XF k d b s).times.length=s.times.length:=by grind [XF,RQ]
theorem La {x t sp k L b} (h:TrpOk x t sp) (hk:k<=sp.length) (hl:LabR k L) (he:(XX x t sp k L b).2=0):LabR (k+1) (XX x t sp k L b).1:=by
 have h1:=Kl h hl b;have h2:=F6 hl b;obtain ⟨h3,h4⟩:=IY h hl b;have h5:=hl.mil;have h6:=h.opn;have h7:=h.drv;have hm:(XF k (ZJ t L b) b L.she).miles=L.she.miles:=Kv;unfold XX at he ⊢
 generalize YY x t sp k (ZJ t L b)=g at *
 generalize ZJ t L b=d at *
 generalize W0 L b=s at *
 generalize XF k d b L.she=m at *
 unfold Wm at he ⊢
 split at he
 ·simp at he
 ·rename_i c1;rw [if_neg c1]
  split at he
  ·rename_i c2;rw [if_pos c2]
   split at he
   ·simp at he
   ·rename_i c3;rw [if_neg c3]
    split at he
    ·simp at he
    ·rename_i c4;rw [if_neg c4];exact ⟨by grind,by grind,by grind⟩
  ·rename_i c2;rw [if_neg c2];have h8:=h.stp _ (ZF (show k<sp.length by omega))
   split at he
   ·simp at he
   ·rename_i c3;rw [if_neg c3]
    split at he
    ·simp at he
    ·rename_i c4;rw [if_neg c4];exact ⟨by grind,by grind,by grind⟩
theorem FA {x t sp k L b} (hl:L.she.times.length=k) (he:(XX x t sp k L b).2=0) (hk:k<sp.length):(XX x t sp k L b).1.she.times.length=k+1:=by
 have hm:(XF k (ZJ t L b) b L.she).times.length=L.she.times.length:=AA;unfold XX at he ⊢
 generalize YY x t sp k (ZJ t L b)=g at *
 generalize ZJ t L b=d at *
 generalize W0 L b=s at *
 generalize XF k d b L.she=m at *
 have hk2: ¬k=sp.length:=Za
 unfold Wm at he ⊢
 grind
def Xg (m x:Lab):Bool:=decide (m.ready=x.ready)&&decide (m.since<=x.since)
theorem Ox {x t sp k} {m y z:Lab} {b:Bool} (hb:Xg m y=true) (hn:XP x t sp k y b=some z): ∃u,XP x t sp k m b=some u/\Xg u z=true:=by
 simp only [Xg,Zy,Zp] at hb;obtain ⟨hb1,hb2⟩:=hb
 have hd:ZJ t m b=ZJ t y b:=by simp [ZJ,hb1]
 have hs:W0 m b<=W0 y b:=by grind [W0]
 unfold XP at hn ⊢;unfold XX at hn ⊢;rw [hd]
 generalize YY x t sp k (ZJ t y b)=g at *
 generalize ZJ t y b=d at *
 generalize W0 y b=s at *
 generalize W0 m b=s2 at *
 generalize XF k d b y.she=h1 at *
 generalize XF k d b m.she=h2 at *
 unfold Wm at hn ⊢
 by_cases c1:g.2.2=0
 ·by_cases c2:k=sp.length
  ·simp only [c1,c2,not_true,if_true,YA] at hn ⊢
   by_cases c3:t.cls<g.1
   ·grind
   ·by_cases c4:t.drive<s+g.1-d
    ·grind
    ·have c5: ¬t.drive<s2+g.1-d:=Za
     simp only [c3,c4,YA,if_true,X9] at hn;subst hn;refine ⟨_,by simp only [c3,c5,YA,if_true];rfl,?_⟩;simp [Xg];omega
  ·simp only [c1,c2,not_true,YA] at hn ⊢
   by_cases c3:(nth sp k).cls<max g.1 (nth sp k).opn
   ·grind
   ·by_cases c4:t.drive<s+g.1-d
    ·grind
    ·have c5: ¬t.drive<s2+g.1-d:=Za
     simp only [c3,c4,YA,if_true,X9] at hn;subst hn;refine ⟨_,by simp only [c3,c5,YA,if_true];rfl,?_⟩;simp [Xg];omega
 grind
def Wb (L:Lab):Int:=L.she.fin
theorem Ng {x t sp} {y z:Lab} {b:Bool} (hn:XP x t sp sp.length y b=some z):z.she.fin=z.ready:=by
 unfold XP XX Wm at hn
 grind
theorem Ht {x t sp} (ch:Nat->List Bool) (L:Lab):W7 Wb none (J1 Xg (XP x t sp) ch (sp.length+1) 0 [L])=W7 Wb none (VA (XP x t sp) ch (sp.length+1) 0 L):=by
 have h:=RH Wb Xg (XP x t sp) ch (n:=sp.length+1) (Inv:=fun k y=>k=sp.length+1->y.she.fin=y.ready)
  (fun k y b z _ hn hk=>by
   grind [Ng]) (fun k m y b z _ _ hb hn=>Ox hb hn)
  (fun m y h1 h2 hb=>by
   simp only [Xg,Zy,Zp] at hb
   rw [Wb,Wb,h1 rfl,h2 rfl];omega) (sp.length+1) 0 [L] Za (fun y _ hk=>Za)
 rw [h];simp
def Uq (r:List Bool) (k:Nat):List Bool:=match r[k]? with | some b=> [b] | none=> [false,true]
theorem Ro (r:List Bool) (n:Nat) (hn:r.length<=n): ∀(j k:Nat),k+j=r.length->IT (Uq r) (n-k) k=(YM (List.replicate (n-r.length) false)).map (r.drop k++ ·)
 | 0,k,h=>by
  have hk:k=r.length:=Za
  subst hk;rw [MC (n:=n) _ _ _ (fun q hq=>by grind [Uq])];simp
 | j+1,k,h=>by
  have e:n-k=(n-(k+1))+1:=Za
  have hlt:k<r.length:=Za
  rw [e,IT,Ro r n hn j (k+1) Za]
  have:Uq r k= [r[k]]:=by simp [Uq,hlt]
  rw [this,List.flatMap_cons,List.flatMap_nil,Vw,JE,UO hlt]
  rfl
theorem He (r:List Bool) (n:Nat) (hn:r.length<=n):IT (Uq r) n 0=(YM (List.replicate (n-r.length) false)).map (r++ ·):=by
 have:=Ro r n hn r.length 0 Za
 grind
def XZ (r:List Bool) (n:Nat):List (List Bool):=(YM (List.replicate (n-r.length) false)).map (r++ ·)
def YZ (r:List Bool) (n:Nat):List Bool:=r++List.replicate (n-r.length) false
def Wn (x:Inst) (t:Typ) (sp:List Stp) (st:Int) (r:List Bool):She×Int :=
 match W7 Wb none ((XZ r (sp.length+1)).filterMap (WT (XP x t sp) 0 (Xk t st))) with
 | some L=>(L.she,0)
 | none=>(zShe,(Xa x t sp 0 (Xk t st) (YZ r (sp.length+1))).2)
theorem IA {x t sp} {st:Int} {r:List Bool} (hr:r.length<=sp.length+1):Wn x t sp st r=match W7 Wb none (J1 Xg (XP x t sp) (Uq r) (sp.length+1) 0 [Xk t st]) with
 | some L=>(L.she,0)
 | none=>(zShe,(Xa x t sp 0 (Xk t st) (YZ r (sp.length+1))).2):=by
 rw [Ht,VA,He r _ hr];rfl
theorem NE {x t sp} : ∀(bs:List Bool) (k:Nat) (L:Lab),L.she.times.length=k->k+bs.length=sp.length+1->0<bs.length->(Xa x t sp k L bs).2=0->(Xa x t sp k L bs).1.she.times.length=sp.length
 | [],k,L,h1,h2,h3,h=>by simp at h3
 | b::bs,k,L,h1,h2,_,h=>by
  rw [Xa] at h ⊢
  by_cases h4:(XX x t sp k L b).2=0
  ·simp only [h4,if_true] at h ⊢
   cases bs with
   | nil =>
    simp at h2;subst h2;rw [Xa];unfold XX at h4 ⊢;unfold Wm at h4 ⊢
    split at h4
    ·simp at h4
    ·rename_i c1;rw [if_neg c1];simp only [if_true] at h4 ⊢
     split at h4
     ·simp at h4
     ·rename_i c2;rw [if_neg c2]
      split at h4
      ·simp at h4
      simp_all [if_neg,AA]
   | cons b2 bs =>
    simp at h2;exact NE (b2::bs) (k+1) _ (FA h1 h4 Za) (by simp;omega) Zb h
  grind
theorem bestF_len {x t sp} {st:Int} {r:List Bool} (hr:r.length<=sp.length+1) (h:(Wn x t sp st r).2=0):(Wn x t sp st r).1.times.length=sp.length:=by
 unfold Wn at h ⊢
 cases hf:W7 Wb none ((XZ r (sp.length+1)).filterMap (WT (XP x t sp) 0 (Xk t st))) with
 | none =>
  rw [hf] at h;simp only at h ⊢;exfalso
  have hm:YZ r (sp.length+1)∈XZ r (sp.length+1):=by
   grind [XZ,YZ,fromB_next]
  have h2:WT (XP x t sp) 0 (Xk t st) (YZ r (sp.length+1))=some (Xa x t sp 0 (Xk t st) (YZ r (sp.length+1))).1:=by rw [Y9,if_pos h]
  have h3:(Xa x t sp 0 (Xk t st) (YZ r (sp.length+1))).1∈(XZ r (sp.length+1)).filterMap (WT (XP x t sp) 0 (Xk t st)):=JL.2 ⟨_,hm,h2⟩;generalize (XZ r (sp.length+1)).filterMap (WT (XP x t sp) 0 (Xk t st))=l at hf h3
  cases l with
  | nil=>simp at h3
  | cons a l =>
   rw [W7] at hf;obtain ⟨z,e,_⟩:=V5 Wb l a
   grind
 | some L =>
  simp only;have hm:=fmL_mem _ _ hf;obtain ⟨bs,hbs,hrun⟩:=JL.1 hm;rw [Y9] at hrun
  split at hrun
  ·rename_i h5;simp at hrun;subst hrun;obtain ⟨q,hq,rfl⟩:=Xv.1 hbs;have hql:=fromB_len _ _ hq;simp at hql;exact NE _ 0 _ rfl (by grind) (by grind) h5
  ·cases hrun
where
 fmL_mem: ∀(l:List Lab) (L:Lab),W7 Wb none l=some L->L∈l
 | [],L,h=>by simp [W7] at h
 | a::l,L,h=>by
  rw [W7] at h;exact fmL_mem2 l a L h
 fmL_mem2: ∀(l:List Lab) (a L:Lab),W7 Wb (some a) l=some L->L∈a::l
 | [],a,L,h=>by grind [W7]
 | y::l,a,L,h=>by
  rw [W7] at h
  split at h
  ·have:=fmL_mem2 l y L h;grind
  ·have:=fmL_mem2 l a L h;grind
 fromB_len: ∀(l q:List Bool),q∈YM l->q.length=l.length
 | [],q,h=>by grind [YM]
 | b::bs,q,h=>by
  rw [YM] at h
  split at h
  ·obtain ⟨q',hq,rfl⟩:=Xv.1 h;simp [fromB_len bs q' hq]
  ·rcases Xo.1 h with h | h
   ·obtain ⟨q',hq,rfl⟩:=Xv.1 h;simp [fromB_len bs q' hq]
   ·obtain ⟨q',hq,rfl⟩:=Xv.1 h;simp [fromB_len (List.replicate bs.length false) q' hq]
 termination_by l=>l.length
 decreasing_by all_goals simp
def stopV (x:Inst) (v:Vis):Stp:=if v.drp=true then (nth x.orders v.order.toNat).drp else (nth x.orders v.order.toNat).pick
def Xp (x:Inst) (l:List Vis):List Stp:=l.map (stopV x)
def WK (t:Typ) (s:Int):Bool:=decide (0<=t.skills)&&decide (0<=s)&&(List.range 63).all fun i=> !s.toNat.testBit i||t.skills.toNat.testBit i
def U9 (a c:List Int):Bool:=decide (a.length=c.length)&&(List.range a.length).all fun i=>decide (nth a i<=nth c i)
def UT (x:Inst) (c:List Int) (l:List Vis):Bool:=(List.range (l.length+1)).all fun n=>U9 (Wl x l n) c
def ZN (x:Inst) (r:Rte):Typ:=nth x.types r.typ.toNat
def Uf (l:List Vis) (i:Nat):Bool:= !((l.take i).any fun v=>decide (v.order=(nth l i).order))
def Xt (k t:Int):Bool:=decide (k≠ -1)&&decide (k≠t)
def chgF (x:Inst) (l:List Vis) (t:Int):Nat->Int×Int
 | 0=>(0,0)
 | n+1=>if Uf l n=true then ((chgF x l t n).1+(if Xt (nth x.orders (nth l n).order.toNat).now t=true then 1 else 0),(chgF x l t n).2+(if Xt (nth x.orders (nth l n).order.toNat).last t=true then 1 else 0)) else chgF x l t n
def Dt (x:Inst) (r:Rte) (s:She):Sco :=
 ⟨(ZN x r).fixed+(ZN x r).perMile*s.miles+(ZN x r).perTick*(s.fin-(ZN x r).opn),(chgF x r.visits r.typ r.visits.length).1,(chgF x r.visits r.typ r.visits.length).2,(s.fin-(ZN x r).opn).tdiv 64*(s.fin-(ZN x r).opn).tdiv 64⟩
def Yf (x:Inst) (r:Rte):Int :=
 if ¬(0<=r.typ/\r.typ<(x.types.length:Int)) then 2
 else if ¬Xw x r.visits=0 then Xw x r.visits
 else if (r.visits.any fun v=> !WK (ZN x r) (nth x.orders v.order.toNat).skills)=true then 18
 else if UT x (ZN x r).cap r.visits=false then 17
 else if ¬(0<=r.start/\r.start<=4096/\r.rests.length<=r.visits.length+1) then 2
 else 0
def Xh (x:Inst) (r:Rte):She×Int:=Wn x (ZN x r) (Xp x r.visits) r.start r.rests
def evalE (x:Inst) (r:Rte):Int:=if Yf x r=0 then (Xh x r).2 else Yf x r
def ZY (x:Inst) (r:Rte):She:=if evalE x r=0 then (Xh x r).1 else zShe
def XG (x:Inst) (r:Rte):Sco:=if evalE x r=0 then Dt x r (Xh x r).1 else zSco
def ZdQ : Stp:=⟨0,0,0,0⟩
def RB (x:Inst) (v:Vis):Bool:=decide (0<=v.order)&&decide (v.order<(x.orders.length:Int))
def K0 (x:Inst) (v:Vis):Bool:=RB x v&&decide (0<=(stopV x v).place)
def CN (x:Inst) (v:Vis):Stp:=if RB x v=true then stopV x v else ZdQ
theorem NV (x:Inst) (v:Vis) (ho:x.orders.length<=1048576):PT 186 [.p (ZE x),.p (Z1 v)] [.p (IS (CN x v)),.p (.bool (K0 x v))]:=by
 refine Zf [] Tryz.func186 rfl Zbi ?_;simp (disch:=omega) only [Tryz.f186,go_sem,seval];refine gF ?_ ?_<;>intro h1<;>simp (disch:=omega) only [Sh.out h1,go_sem,seval,↓reduceIte]
 ·have e:RB x v=false:=by
   grind [RB]
  simp only [CN,K0,e,UR,Yi,YA,ZdQ];exact we
 ·refine cD ?_ ?_<;>intro h2<;>simp (disch:=omega) only [Sh.out h2,go_sem,seval,↓reduceIte]
  ·have e:RB x v=false:=by
    grind [RB]
   simp only [CN,K0,e,UR,Yi,YA,ZdQ];exact we
  ·have e:RB x v=true:=by simp [RB];omega
   have hi:v.order.toNat<x.orders.length:=Za
   refine cD ?_ ?_<;>intro hd<;>simp (disch:=omega) only [Sh.out hd,go_sem,seval,↓reduceIte]
   ·have hG:CN x v=(nth x.orders v.order.toNat).drp:=by simp [CN,e,stopV,hd]
    have hV:K0 x v=decide (0<=(nth x.orders v.order.toNat).drp.place):=by simp [K0,e,stopV,hd]
    rw [hG,hV];refine Ma (.cons 0 (.cons 1 (.cons 2 (.cons 3 (.cons 4 (.cons 5 .nil .nil) .nil) (.cons 4 (.cons 3 (.cons 5 .nil .nil) .nil) .nil)) (.cons 4 (.cons 2 (.cons 3 (.cons 5 .nil .nil) .nil) .nil) .nil)) (.cons 4 (.cons 1 (.cons 2 (.cons 3 (.cons 5 .nil .nil) .nil) .nil) .nil) .nil)) (.cons 1 (.cons 0 (.cons 2 (.cons 3 (.cons 4 (.cons 5 .nil .nil) .nil) (.cons 4 (.cons 3 (.cons 5 .nil .nil) .nil) .nil)) (.cons 4 (.cons 2 (.cons 3 (.cons 5 .nil .nil) .nil) .nil) .nil)) (.cons 2 (.cons 0 (.cons 3 (.cons 4 (.cons 5 .nil .nil) .nil) (.cons 4 (.cons 3 (.cons 5 .nil .nil) .nil) .nil)) (.cons 3 (.cons 0 (.cons 4 (.cons 5 .nil .nil) .nil) .nil) .nil)) .nil)) .nil)) mixed Ze ?_
    refine Zc ?_
    repeat' first
     | refine GW ?_ ?_
     | exact we
     | simp (disch:=omega) only [go_sem,seval,↓reduceIte]
   ·have hG:CN x v=(nth x.orders v.order.toNat).pick:=by simp [CN,e,stopV,hd]
    have hV:K0 x v=decide (0<=(nth x.orders v.order.toNat).pick.place):=by simp [K0,e,stopV,hd]
    rw [hG,hV];refine Ma (.cons 0 (.cons 1 (.cons 2 (.cons 3 (.cons 4 (.cons 5 .nil .nil) .nil) (.cons 4 (.cons 3 (.cons 5 .nil .nil) .nil) .nil)) (.cons 4 (.cons 2 (.cons 3 (.cons 5 .nil .nil) .nil) .nil) .nil)) (.cons 4 (.cons 1 (.cons 2 (.cons 3 (.cons 5 .nil .nil) .nil) .nil) .nil) .nil)) (.cons 1 (.cons 0 (.cons 2 (.cons 3 (.cons 4 (.cons 5 .nil .nil) .nil) (.cons 4 (.cons 3 (.cons 5 .nil .nil) .nil) .nil)) (.cons 4 (.cons 2 (.cons 3 (.cons 5 .nil .nil) .nil) .nil) .nil)) (.cons 2 (.cons 0 (.cons 3 (.cons 4 (.cons 5 .nil .nil) .nil) (.cons 4 (.cons 3 (.cons 5 .nil .nil) .nil) .nil)) (.cons 3 (.cons 0 (.cons 4 (.cons 5 .nil .nil) .nil) .nil) .nil)) .nil)) .nil)) mixed Ze ?_
    refine Zc ?_
    repeat' first
     | refine GW ?_ ?_
     | exact we
     | simp (disch:=omega) only [go_sem,seval,↓reduceIte]
def Ua (x:Inst) (r:Rte):Bool:=(decide (0<=r.typ)&&decide (r.typ<(x.types.length:Int))&&decide (0<=r.start)&&decide (r.start<=4096)&&decide (r.visits.length<=20))&&r.visits.all (K0 x)
theorem FI (x:Inst) (r:Rte) (ho:x.orders.length<=1048576) (ht:x.types.length<=1048576) (hl:r.visits.length<=1048576):PC 141 [.p (ZE x),.p (Z0 r)] (.bool (Ua x r)):=by
 refine Zd Tryz.func141 rfl ZaM ?_;simp (disch:=omega) only [Tryz.f141,go_sem,seval];refine gF ?_ ?_<;>intro h1<;>simp (disch:=omega) only [Sh.out h1,go_sem,seval,↓reduceIte]
 ·simp [Ua];omega
 ·refine gF ?_ ?_<;>intro h2<;>simp (disch:=omega) only [Sh.out h2,go_sem,seval,↓reduceIte]
  ·simp [Ua];omega
  ·refine gF ?_ ?_<;>intro h3<;>simp (disch:=omega) only [Sh.out h3,go_sem,seval,↓reduceIte]
   ·simp [Ua];omega
   ·refine gF ?_ ?_<;>intro h4<;>simp (disch:=omega) only [Sh.out h4,go_sem,seval,↓reduceIte]
    ·simp [Ua];omega
    ·refine cD ?_ ?_<;>intro h5<;>simp (disch:=omega) only [Sh.out h5,go_sem,seval]
     ·simp [Ua];omega
     ·refine Zk [2,3] (fun k:Nat=> [(5,.p (.int .i64 k))]) (fun _=> [Zh x,ZA r]) (fun k=>k<=r.visits.length/\ ∀j,j<k->K0 x (nth r.visits j)=true) (fun k=>r.visits.length-k) 0 Zb (Weak.mk ?_) ?_
      ·simp (disch:=omega) only [Zh,ZA,go_sem,seval]
      ·rintro k ⟨hk,hno⟩;refine J8 ?_;refine cD ?_ ?_<;>intro h<;>simp (disch:=omega) only [Sh.out h,go_sem,seval,↓reduceIte]
       ·have hk2:k<r.visits.length:=Za
        refine XI [10,11] 12 mixed Ze Ze Ze Zb (Zc ?_);refine Ac (NV x (nth r.visits k) ho) (Zc ?_);refine ZL 10 _ _ Ze (by refine Zc ?_;exact ⟨rfl,rfl⟩) ?_;refine Zc ?_;refine ZL 11 _ _ Ze (by refine Zc ?_;exact ⟨rfl,rfl⟩) (Yo ?_);refine Zc ?_;refine ZI ?_ ?_<;>intro h6
        ·grind [Zo,Ua]
        ·exact ⟨k+1,⟨Za,Zm.2 ⟨hno,by grind⟩⟩,Za,wk⟩
       ·have hkl:k=r.visits.length:=Za
        subst hkl
        have:r.visits.all (K0 x)=true:=by
         rw [Zt];intro v hv;obtain ⟨j,hj,rfl⟩:=ZU.1 hv
         grind [Zi]
        grind [Ua]
@[go_sem high] theorem Zlq {k k':IntKind} {a b:Int} :Ol false [.p (.int k a),.p (.int k' b)]=some (.int k (max a b)):=by
 grind [Ol]
theorem O2 {l:List Tim} {m:Tim} {d:Int} {b:Bool} :RQ (l++ [m]) l.length d b=l++ [{ m with dep:=d,rest:=b }]:=by
 grind [Zi,RQ]
theorem bB {x:Inst} {t:Typ} {sp:List Stp} {k:Nat} {d s m:Int} {h:She} (hk:k<sp.length) (ho:(nth sp k).opn<=(nth sp k).cls) (hm:h.miles=m) :
  (Q5 x t ⟨Ka t sp k,d,s,m⟩ (nth sp k).place (nth sp k).cls 14).2=(Wm t sp k (YY x t sp k d) d s h).2 /\
  ((Wm t sp k (YY x t sp k d) d s h).2=0->(Q5 x t ⟨Ka t sp k,d,s,m⟩ (nth sp k).place (nth sp k).cls 14).1=⟨(nth sp k).place,(YY x t sp k d).1,s+(YY x t sp k d).1-d,m+(YY x t sp k d).2.1⟩ /\
   (Wm t sp k (YY x t sp k d) d s h).1=⟨max (YY x t sp k d).1 (nth sp k).opn+(nth sp k).serv,s+(YY x t sp k d).1-d,{ h with times_c:=false,times:=h.times++ [⟨(YY x t sp k d).1,max (YY x t sp k d).1 (nth sp k).opn,0,false⟩],miles:=m+(YY x t sp k d).2.1 }⟩):=by
 have hne: ¬k=sp.length:=Za
 have e:Ug x.net t.prof (Ka t sp k) (nth sp k).place d=YY x t sp k d:=by simp [YY,bX,hne]
 unfold Q5 Wm
 grind
theorem bC {x:Inst} {t:Typ} {sp:List Stp} {d s m:Int} {h:She} (hm:h.miles=m) :
  (Q5 x t ⟨Ka t sp sp.length,d,s,m⟩ t.dst t.cls 15).2=(Wm t sp sp.length (YY x t sp sp.length d) d s h).2 /\
  ((Wm t sp sp.length (YY x t sp sp.length d) d s h).2=0->(Q5 x t ⟨Ka t sp sp.length,d,s,m⟩ t.dst t.cls 15).1=⟨t.dst,(YY x t sp sp.length d).1,s+(YY x t sp sp.length d).1-d,m+(YY x t sp sp.length d).2.1⟩ /\
   (Wm t sp sp.length (YY x t sp sp.length d) d s h).1=⟨(YY x t sp sp.length d).1,s+(YY x t sp sp.length d).1-d,{ h with fin:=(YY x t sp sp.length d).1,miles:=m+(YY x t sp sp.length d).2.1 }⟩):=by
 have e:Ug x.net t.prof (Ka t sp sp.length) t.dst d=YY x t sp sp.length d:=by simp [YY,bX]
 unfold Q5 Wm
 grind
def ZdC (s:StD):AM.Obj:= .cells [.p (.int .i64 s.place),.p (.int .i64 s.time),.p (.int .i64 s.driven),.p (.int .i64 s.miles)]
def QN (t:Typ) (sp:List Stp) (k:Nat) (L:Lab) (b:Bool):StD:=⟨Ka t sp k,ZJ t L b,W0 L b,L.she.miles⟩
theorem Zk0 {g:FuncId} {args:List V} {a c:PV} {H:List AM.Obj} {K:V->List AM.Obj->Prop} (h:ACalls Tryz.prog g args [] fun x H'=> ∃b:PV,x= .tup [.p a,.p b,.p c]/\H'= []) (k: ∀b:PV,K (.tup [.p a,.p b,.p c]) H) (ha:Z9 0 args=true:=by rfl):ACalls Tryz.prog g args H K :=
 (h.behind ha H).mono fun x H' hq=>by
  obtain ⟨y,H1,⟨b,rfl,rfl⟩,rfl,rfl⟩:=hq
  grind [shV,shVs]
theorem X4 {x:Inst} {l:List Vis} :(Xp x l).length=l.length:=by simp [Xp]
theorem F7 {x:Inst} {l:List Vis} {k:Nat} (h:k<l.length):nth (Xp x l) k=stopV x (nth l k):=by
 grind [Zi,Xp]
theorem Vm {P Q:Prop} (h:Q) (e:Q->P:=by intro h;simp (disch:=omega) only [Zs,Zn,XE,Xe,go_sem,seval];exact h):P:=e h
theorem sQ (x:Inst) (r:Rte) (rests:List Bool) (c:Bool) (hok:TrpOk x (ZN x r) (Xp x r.visits)) (ho:x.orders.length<=1048576) (ht:x.types.length<=1048576) (hne:0<r.visits.length) (hp:Ua x r=true) (hl:rests.length=r.visits.length+1) :
  ACalls Tryz.prog 187 [.p (ZE x),.p (Z0 r),.p (.list c (rests.map eB))] [] fun y H'=> ∃d:PV,y= .tup [.p (BR (Xa x (ZN x r) (Xp x r.visits) 0 (Xk (ZN x r) r.start) rests).1.she),.p d,.p (.int .i64 (Xa x (ZN x r) (Xp x r.visits) 0 (Xk (ZN x r) r.start) rests).2)]/\H'= []:=by
 have hp2:=hp;simp only [Ua,Zy,Zp] at hp2;obtain ⟨⟨⟨⟨⟨p1,p2⟩,p3⟩,p4⟩,p5⟩,p6⟩:=hp2;have hvis: ∀k,k<r.visits.length->K0 x (nth r.visits k)=true:=fun k hk=>Zt.1 p6 _ (Zo hk)
 have hstop: ∀k,k<r.visits.length->CN x (nth r.visits k)=nth (Xp x r.visits) k:=fun k hk=>by
  simp_all [K0,CN,F7]
 have hti:r.typ.toNat<x.types.length:=Za
 have hopn:=hok.opn;have hrst:=hok.rst;have htd:ZN x r=nth x.types r.typ.toNat:=rfl
 generalize hT:ZN x r=t at *
 have hsl:(Xp x r.visits).length=r.visits.length:=X4
 generalize hS:Xp x r.visits=sp at *
 refine Zf [26] Tryz.func187 rfl Zbj ?_;simp (disch:=omega) only [Tryz.f187,go_sem,seval];refine (FI x r ho ht Za).use (Zc ?_);rw [hp];refine Zc ?_;refine cD ?_ ?_<;>intro h0<;>simp (disch:=omega) only [Sh.out h0,<- htd,go_sem,seval,↓reduceIte]
 ·omega
 ·refine XI [13] 14 mixed Ze Ze Ze Zb (Zc ?_);refine Zr (Nx t ⟨t.src,max t.opn r.start,0,0⟩ (nth rests 0) (by grind)) (Zc ?_);refine ZL 13 _ _ Ze (by refine Zc ?_;exact ⟨rfl,rfl⟩) (Yo ?_);refine Zc ?_;refine XI [6] 7 mixed Ze Ze Ze Zb (Zc ?_);refine ZL 6 _ _ Ze (by refine Zc ?_;exact ⟨rfl,rfl⟩) (Yo ?_);refine Zc ?_;have hL0:LabR 0 (Xk t r.start):=⟨by grind [Xk],by simp [Xk],by simp [Xk,zShe]⟩
  have hS0:FO t ⟨t.src,max t.opn r.start,0,0⟩ (nth rests 0)=QN t sp 0 (Xk t r.start) (nth rests 0):=by
   simp only [FO,QN,Ka,ZJ,W0,Xk,zShe,if_true]
   split<;>rfl
  simp (disch:=omega) only [hS0,go_sem,seval]
  refine ZO [26] [2,3,4,6,9,10,11] (fun q:Nat×Lab×List Int=> [(12,.sl 7 0 q.2.2.length q.2.2.length),(13,.p (.int .i64 q.1))])
   (fun q=> [Zh x,ZA r,.cells [.p (.bool false),.p (.int .i64 0),.p (.list true []),.p (.int .i64 0),.p (.int .i64 0)],Yz t,ZdC (QN t sp q.1 q.2.1 (nth rests q.1)),
    .cells [.p (.bool (XF q.1 (ZJ t q.2.1 (nth rests q.1)) (nth rests q.1) q.2.1.she).rest),.p (.int .i64 (XF q.1 (ZJ t q.2.1 (nth rests q.1)) (nth rests q.1) q.2.1.she).dep),.sl 6 0 (XF q.1 (ZJ t q.2.1 (nth rests q.1)) (nth rests q.1) q.2.1.she).times.length (XF q.1 (ZJ t q.2.1 (nth rests q.1)) (nth rests q.1) q.2.1.she).times.length,.p (.int .i64 0),.p (.int .i64 0)],
    .elems 4 ((XF q.1 (ZJ t q.2.1 (nth rests q.1)) (nth rests q.1) q.2.1.she).times.map eTim),.elems 1 (q.2.2.map eI)])
   (fun q=>q.1<=r.visits.length/\Xa x t sp 0 (Xk t r.start) rests=Xa x t sp q.1 q.2.1 (rests.drop q.1)/\LabR q.1 q.2.1/\q.2.1.she.times.length=q.1/\q.2.1.she.fin=0/\(0<q.1->q.2.1.she.times_c=false)/\q.2.2.length=q.1) (fun q=>r.visits.length-q.1) (0,Xk t r.start,[])
   ⟨Zb,Zb,hL0,by rfl,by rfl,Zb,Zb⟩ ((Weak.nilC (o:=5) (j:=2) 4 rfl rfl Zb).trans (Weak.ofNil 12 1 rfl Zb (Weak.mk ?_))) ?_
  ·simp (disch:=omega) only [Zh,ZA,Yz,ZdC,QN,Ka,XF,Xk,zShe,Zn,Zz,XE,Xe,ZW,ZM,go_sem,seval]
  ·rintro ⟨k,L,ds⟩ ⟨hk,hrun,hL,hlen,hfin,hclip,hds⟩;simp only at hk hrun hL hlen hfin hclip hds
   have hmlen:(XF k (ZJ t L (nth rests k)) (nth rests k) L.she).times.length=k:=by grind [AA]
   have hd:=Kl hok hL (nth rests k);have hs:=F6 hL (nth rests k);have hg:=IY hok hL (nth rests k);have hmi:=hL.mil
   generalize hm:XF k (ZJ t L (nth rests k)) (nth rests k) L.she=m at *
   have hmm:m.miles=L.she.miles:=by rw [<- hm,Kv]
   have hmf:m.fin=0:=by grind [HA]
   have hdrop:rests.drop k=nth rests k::rests.drop (k+1):=by grind [UO,Zi]
   have hnx:XX x t sp k L (nth rests k)=Wm t sp k (YY x t sp k (ZJ t L (nth rests k))) (ZJ t L (nth rests k)) (W0 L (nth rests k)) m:=by rw [XX,hm]
   rw [hdrop,Xa] at hrun;simp (disch:=omega) only [Zh,ZA,Yz,ZdC,go_sem,seval];refine cD ?_ ?_<;>intro h<;>simp (disch:=omega) only [Sh.out h,go_sem,seval,↓reduceIte]
   ·have hk2:k<r.visits.length:=Za
    have hsp:=hok.stp _ (ZF (show k<sp.length by omega));refine XI [10,11] 12 mixed Ze Ze Ze Zb (Zc ?_);refine Ac (NV x (nth r.visits k) ho) (Zc ?_);refine ZL 10 _ _ Ze (by refine Zc ?_;exact ⟨rfl,rfl⟩) ?_;refine Zc ?_;refine ZL 11 _ _ Ze (by refine Zc ?_;exact ⟨rfl,rfl⟩) (Yo ?_);simp (disch:=omega) only [hstop k hk2,go_sem,seval];obtain ⟨f1,f2⟩:=bB (x:=x) (t:=t) (d:=ZJ t L (nth rests k)) (s:=W0 L (nth rests k)) (h:=m) (show k<sp.length by omega) hsp.2.1 hmm
    have he2:Ug x.net t.prof (Ka t sp k) (nth sp k).place (ZJ t L (nth rests k))=YY x t sp k (ZJ t L (nth rests k)):=by
     grind [YY,bX]
    refine Yd (NU x t (QN t sp k L (nth rests k)) (nth sp k).place (nth sp k).cls 14 hok.net ?_ ?_ ?_ ?_) ?_
    ·grind [QN]
    ·grind [QN,cG]
    ·grind [QN,cG]
    ·grind [QN,cG]
    have f1':(Q5 x t (QN t sp k L (nth rests k)) (nth sp k).place (nth sp k).cls 14).2=(XX x t sp k L (nth rests k)).2:=by rw [hnx,<- f1];rfl
    refine Zc ?_;rw [f1'];refine cD ?_ ?_<;>intro h3<;>simp (disch:=omega) only [Sh.out h3,go_sem,seval,↓reduceIte]
    ·rw [if_neg h3] at hrun;rw [hrun];simp only [WJ,zShe];exact ⟨_,_,Weak.mk (by simp (disch:=omega) only [Zn,go_sem,seval]),.list true [],rfl,rfl⟩
    ·have h3':(XX x t sp k L (nth rests k)).2=0:=Xs.1 h3;rw [if_pos h3'] at hrun;have hL':=La hok Za hL h3';rw [hnx] at h3';obtain ⟨f3,f4⟩:=f2 h3';have f3':(Q5 x t (QN t sp k L (nth rests k)) (nth sp k).place (nth sp k).cls 14).1=⟨(nth sp k).place,(YY x t sp k (ZJ t L (nth rests k))).1,W0 L (nth rests k)+(YY x t sp k (ZJ t L (nth rests k))).1-ZJ t L (nth rests k),L.she.miles+(YY x t sp k (ZJ t L (nth rests k))).2.1⟩:=f3
     have hL2:(XX x t sp k L (nth rests k)).1=⟨max (YY x t sp k (ZJ t L (nth rests k))).1 (nth sp k).opn+(nth sp k).serv,W0 L (nth rests k)+(YY x t sp k (ZJ t L (nth rests k))).1-ZJ t L (nth rests k),{ m with times_c:=false,times:=m.times++ [⟨(YY x t sp k (ZJ t L (nth rests k))).1,max (YY x t sp k (ZJ t L (nth rests k))).1 (nth sp k).opn,0,false⟩],miles:=L.she.miles+(YY x t sp k (ZJ t L (nth rests k))).2.1 }⟩:=by grind
     simp (disch:=omega) only [f3',go_sem,seval];refine XI [13] 14 mixed Ze Ze Ze Zb (Zc ?_);refine ZL 13 _ _ Ze (by refine Zc ?_;exact ⟨rfl,rfl⟩) (Yo ?_);refine Zc ?_
     generalize (XX x t sp k L (nth rests k)).1=L2 at *
     have hS1:FO t ⟨(nth sp k).place,max (YY x t sp k (ZJ t L (nth rests k))).1 (nth sp k).opn+(nth sp k).serv,W0 L (nth rests k)+(YY x t sp k (ZJ t L (nth rests k))).1-ZJ t L (nth rests k),L.she.miles+(YY x t sp k (ZJ t L (nth rests k))).2.1⟩ (nth rests (k+1))=QN t sp (k+1) L2 (nth rests (k+1)):=by
      rw [hL2];simp only [FO,QN,Ka,ZJ,W0,Nat.add_sub_cancel,if_neg (show ¬k+1=0 by omega)]
      split<;>rfl
     have hM:XF (k+1) (ZJ t L2 (nth rests (k+1))) (nth rests (k+1)) L2.she= { m with times_c:=false,times:=m.times++ [⟨(YY x t sp k (ZJ t L (nth rests k))).1,max (YY x t sp k (ZJ t L (nth rests k))).1 (nth sp k).opn,ZJ t L2 (nth rests (k+1)),nth rests (k+1)⟩],miles:=L.she.miles+(YY x t sp k (ZJ t L (nth rests k))).2.1 } :=by
      have he:L2.she= { m with times_c:=false,times:=m.times++ [⟨(YY x t sp k (ZJ t L (nth rests k))).1,max (YY x t sp k (ZJ t L (nth rests k))).1 (nth sp k).opn,0,false⟩],miles:=L.she.miles+(YY x t sp k (ZJ t L (nth rests k))).2.1 } :=by rw [hL2]
      rw [he,XF,if_neg Za,Nat.add_sub_cancel]
      grind [O2]
     have hd2:=Kl hok hL' (nth rests (k+1));refine ZV 8 mixed Ze Ze (Zc ?_);refine Zr (Nx t ⟨(nth sp k).place,max (YY x t sp k (ZJ t L (nth rests k))).1 (nth sp k).opn+(nth sp k).serv,W0 L (nth rests k)+(YY x t sp k (ZJ t L (nth rests k))).1-ZJ t L (nth rests k),L.she.miles+(YY x t sp k (ZJ t L (nth rests k))).2.1⟩ (nth rests (k+1)) (by grind)) (Zc ?_);simp (disch:=omega) only [hS1,go_sem,seval];refine ⟨(k+1,L2,ds++ [L2.since]),⟨Za,hrun,hL',by grind,by grind,by grind,by simp [hds]⟩,Za,Weak.mk ?_⟩
     simp (disch:=omega) only [hM,hmlen,ZG,Zw,Zz,XA,Zs,Zn,go_sem,seval];exact ⟨rfl,by grind⟩
   ·have hkl:k=sp.length:=Za
    subst hkl;obtain ⟨f1,f2⟩:=bC (x:=x) (t:=t) (sp:=sp) (d:=ZJ t L (nth rests sp.length)) (s:=W0 L (nth rests sp.length)) (h:=m) hmm
    have he2:Ug x.net t.prof (Ka t sp sp.length) t.dst (ZJ t L (nth rests sp.length))=YY x t sp sp.length (ZJ t L (nth rests sp.length)):=by simp [YY,bX]
    refine Yd (NU x t (QN t sp sp.length L (nth rests sp.length)) t.dst t.cls 15 hok.net ?_ ?_ ?_ ?_) ?_
    ·grind [QN]
    ·grind [QN,cG]
    ·grind [QN,cG]
    ·grind [QN,cG]
    have f1':(Q5 x t (QN t sp sp.length L (nth rests sp.length)) t.dst t.cls 15).2=(XX x t sp sp.length L (nth rests sp.length)).2:=by rw [hnx,<- f1];rfl
    refine Zc ?_;rw [f1'];have hdl:rests.drop (sp.length+1)= []:=Ef Za;rw [hdl,Xa] at hrun;refine cD ?_ ?_<;>intro h3<;>simp (disch:=omega) only [Sh.out h3,go_sem,seval,↓reduceIte]
    ·rw [if_neg h3] at hrun;rw [hrun];simp only [WJ,zShe];exact ⟨_,_,Weak.mk (by simp (disch:=omega) only [Zn,go_sem,seval]),.list true [],rfl,rfl⟩
    ·have h3':(XX x t sp sp.length L (nth rests sp.length)).2=0:=Xs.1 h3;rw [if_pos h3'] at hrun;rw [hnx] at h3';obtain ⟨f3,f4⟩:=f2 h3';have f3':(Q5 x t (QN t sp sp.length L (nth rests sp.length)) t.dst t.cls 15).1=⟨t.dst,(YY x t sp sp.length (ZJ t L (nth rests sp.length))).1,W0 L (nth rests sp.length)+(YY x t sp sp.length (ZJ t L (nth rests sp.length))).1-ZJ t L (nth rests sp.length),L.she.miles+(YY x t sp sp.length (ZJ t L (nth rests sp.length))).2.1⟩:=f3;rw [hrun,hnx,f4];simp (disch:=omega) only [f3',go_sem,seval];refine Zq (Weak.fz (o:=6) (by rfl)) ?_
     refine Zq (Weak.fz (o:=7) (by rfl)) (Zg [] _ _ _ _ (Vm ?_))
     have hmc:m.times_c=false:=by
      grind [XF]
     exact ⟨_,_,Weak.mk (by simp (disch:=omega) only [hmc,go_sem,seval]),.list false (ds.map eI++ [.int .i64 (W0 L (nth rests sp.length)+(YY x t sp sp.length (ZJ t L (nth rests sp.length))).1-ZJ t L (nth rests sp.length))]),rfl,rfl⟩
theorem nP (x:Inst) (r:Rte) (rests:List Bool) (c:Bool) (hok:TrpOk x (ZN x r) (Xp x r.visits)) (ho:x.orders.length<=1048576) (ht:x.types.length<=1048576) (hne:0<r.visits.length) (hp:Ua x r=true) (hl:rests.length=r.visits.length+1) :
  PT 142 [.p (ZE x),.p (Z0 r),.p (.list c (rests.map eB))] [.p (BR (Xa x (ZN x r) (Xp x r.visits) 0 (Xk (ZN x r) r.start) rests).1.she),.p (.int .i64 (Xa x (ZN x r) (Xp x r.visits) 0 (Xk (ZN x r) r.start) rests).2)]:=by
 have cr:=sQ x r rests c hok ho ht hne hp hl;generalize (Xa x (ZN x r) (Xp x r.visits) 0 (Xk (ZN x r) r.start) rests)=q at cr ⊢;obtain ⟨L,e⟩:=q;refine Zf [] Tryz.func142 rfl ZaN ?_;simp (disch:=omega) only [Tryz.f142,go_sem,seval];refine Zk0 cr fun d=>Zc ?_;exact we
def DL (l:List Bool) (n:Nat):Option (List Bool):=(Yx (l.drop n)).map (l.take n++ ·)
def Pa : Option (List Bool)->PV
 | some l=> .list false (l.map eB)
 | none=> .list true []
theorem KB : ∀m:Nat,Yx (List.replicate m true)=none
 | 0=>rfl
 | m+1=>by rw [Kt,Yx,KB m];rfl
theorem HE : ∀(a b r:List Bool),Yx b=some r->Yx (a++b)=some (a++r)
 | [],b,r,h=>h
 | x::a,b,r,h=>by rw [ZW,Yx,HE a b r h];rfl
theorem jJ (a:List Bool) (m:Nat):Yx (a++false::List.replicate m true)=some (a++true::List.replicate m false):=by
 grind [HE,Yx,KB]
theorem NO {o:List Bool} {i:Nat} {b:Bool} :(o.map eB).set i (.bool b)=(o.set i b).map eB:=by rw [Vc];rfl
theorem jI (l:List Bool) (c:Bool) (n:Nat) (hn:n<=l.length) (h0:0<l.length) (hl:l.length<=1048576):PT 143 [.p (.list c (l.map eB)),.p (.int .i64 (n:Nat))] [.p (Pa (DL l n)),.p (.bool (DL l n).isSome)]:=by
 refine Zf [8] Tryz.func143 rfl ZaO ?_;simp (disch:=omega) only [Tryz.f143,go_sem,seval];rw [if_pos ⟨Za,Za⟩];refine Zc ?_;refine ZO [8] [1] (fun q:Nat×List Bool=> [(6,.sl 0 0 q.2.length q.2.length),(7,.p (.int .i64 ((q.1:Int)-1)))]) (fun q=> [.elems 1 (q.2.map eB)]) (fun q=>n<=q.1/\q.1<=l.length/\q.2=l.take q.1++List.replicate (l.length-q.1) false/\l.drop q.1=List.replicate (l.length-q.1) true) (fun q=>q.1) (l.length,l) (by simp;omega) (Weak.mk ?_) ?_
 ·simp (disch:=omega) only [go_sem,seval]
 ·rintro ⟨j,o⟩ ⟨hj1,hj2,ho,hjt⟩;simp only at hj1 hj2 ho hjt
  have hol:o.length=l.length:=by grind
  refine Zc ?_;refine cD ?_ ?_<;>intro h<;>simp (disch:=omega) only [Sh.out h,go_sem,seval,↓reduceIte]
  ·obtain ⟨i,rfl⟩: ∃i,j=i+1:=⟨j-1,Za⟩
   have hij:(((i+1:Nat):Int)-1)=(i:Int):=Za
   have hat:nth o i=nth l i:=by
    grind [Zi]
   have Oa:l.drop i=nth l i::List.replicate (l.length-(i+1)) true:=by
    grind [UO,Zi]
   have hio:i<o.length:=Za
   simp (disch:=first | omega | (simp only [Zw,Zz,ZG,ZK,ZQ,Z4]<;>omega)) only [Int.add_sub_cancel,YC,hat,hio,go_sem,seval,↓reduceIte];refine cD ?_ ?_<;>intro h2<;>simp (disch:=omega) only [Sh.out h2,go_sem,seval]
   ·have hf:nth l i=false:=by grind
    have hres:DL l n=some (o.set i true):=by
     rw [hf] at Oa
     have e:l.drop n=(l.drop n).take (i-n)++false::List.replicate (l.length-(i+1)) true:=by
      rw [<- Oa,show l.drop i=(l.drop n).drop (i-n) by simp_all,Ak]
     rw [DL,e,jJ,ho];simp only [Cn,X9]
     have e2:l.take (i+1)=l.take n++(l.drop n).take (i-n)++ [nth l i]:=by
      rw [Xl Za,Zi Za]
      congr 1
      have:l.take i=l.take (n+(i-n)):=by congr 1;omega
      grind
     rw [e2,hf]
     have el:(l.take n++(l.drop n).take (i-n)).length=i:=by simp;omega
     rw [Qz (l.take n++(l.drop n).take (i-n)),List.set_append_right _ _ Za,el];simp
    rw [hres];simp (disch:=first | omega | (simp only [Zw,Zz,ZG,ZK,ZQ,Z4]<;>omega)) only [NO,go_sem,seval,↓reduceIte];refine Zq (Weak.fz (o:=0) (by rfl)) ?_;refine Zg [] _ _ _ _ ?_;simp (disch:=omega) only [Zs,Zn,Xe,go_sem,seval];simp only [Ck,if_true];exact we (by simp (disch:=omega) only [Pa,JM,go_sem,seval])
   ·have hf:nth l i=true:=by grind
    simp (disch:=first | omega | (simp only [Zw,Zz,ZG,ZK,ZQ,Z4]<;>omega)) only [NO,go_sem,seval];refine ⟨(i,o.set i false),⟨Za,Za,?_,?_⟩,Za,Weak.mk (by simp (disch:=first | omega | (simp only [Zw,Zz,ZG,ZK,ZQ,Z4]<;>omega)) only [Ck,go_sem,seval])⟩
    ·grind
    grind
  ·have hjn:j=n:=Za
   have hres:DL l n=none:=by grind [DL,KB]
   rw [hres];exact we (by simp (disch:=omega) only [Pa,An,go_sem,seval])
theorem TH {r q:List Bool} :DL (r++q) r.length=(Yx q).map (r++ ·):=by simp [DL]
theorem TT {l:List Bool} :Pa (some l)= .list false (l.map eB):=rfl
theorem TS : Pa none= .list true []:=rfl
def GO (b:Option Lab):She:=match b with | some L=>L.she | none=>zShe
def GH (r:List Bool) (cur:Option (List Bool)):List (List Bool):=match cur with | some q=>(YM q).map (r++ ·) | none=> []
theorem Dr {r s:List Bool} :GH r (some s)=(r++s)::GH r (Yx s):=by
 grind [GH,fromB_next]
theorem ND {x:Inst} {t:Typ} {sp:List Stp} : ∀(bs:List Bool) (k:Nat) (L:Lab),¬(Xa x t sp k L bs).2=0->(Xa x t sp k L bs).1=WJ
 | [],k,L,h=>by simp [Xa] at h
 | b::bs,k,L,h=>by
  rw [Xa] at h ⊢
  split
  ·rename_i c;rw [if_pos c] at h;exact ND bs _ _ h
  ·rfl
theorem dP (x:Inst) (r:Rte) (hok:TrpOk x (ZN x r) (Xp x r.visits)) (ho:x.orders.length<=1048576) (ht:x.types.length<=1048576) (hne:0<r.visits.length) (hp:Ua x r=true) (hl:r.rests.length<=r.visits.length+1) :
  PT 89 [.p (ZE x),.p (Z0 r)] [.p (BR (Xh x r).1),.p (.int .i64 (Xh x r).2)]:=by
 have hsl:(Xp x r.visits).length=r.visits.length:=X4;have hp2:=hp;simp only [Ua,Zy,Zp] at hp2;have hv20:=hp2.1.2;have hrun:=fun rests (c:Bool) (h:rests.length=r.visits.length+1)=>nP x r rests c hok ho ht hne hp h;have hopt:=fun bs=>Y9 (x:=x) (t:=ZN x r) (sp:=Xp x r.visits) bs 0 (Xk (ZN x r) r.start);unfold Xh Wn
 generalize hS:Xp x r.visits=sp at *
 generalize ZN x r=t at *
 generalize Xk t r.start=L0 at *
 refine Zf [5,6] Tryz.func89 rfl wA ?_;simp (disch:=omega) only [Tryz.f89,go_sem,seval];refine (FI x r ho ht Za).use (Zc ?_);rw [hp];refine Zc ?_;refine cD ?_ ?_<;>intro h0<;>simp (disch:=omega) only [Sh.out h0,go_sem,seval,↓reduceIte]
 ·omega
 ·refine Vs (Iw 3 rfl rfl (Zc ?_));refine ⟨_,_,Nk (e:=4) rfl Tryz.underlying46 Ze rfl rfl rfl ?_ ?_ ?_,?_⟩
  ·simp
  ·simp;omega
  ·intro q hq;obtain ⟨b,_,rfl⟩:=Xv.1 hq
   rfl
  ·have hpl:(YZ r.rests (sp.length+1)).length=r.visits.length+1:=by simp [YZ];omega
   have hpad:r.rests.map eB++(PV.bool false::List.replicate r.visits.length (PV.bool false)).drop (r.rests.map eB).length=(YZ r.rests (sp.length+1)).map eB:=by
    rw [YZ,XA,<- Kt,List.drop_replicate,List.map_replicate,hsl,ZK];rfl
   simp only [XE,Xe];rw [hpad];have h0r:=hopt (YZ r.rests (sp.length+1))
   have cn: ∀s:List Bool,(r.rests++s).length=r.visits.length+1->PT 143 [.p (.list false ((r.rests++s).map eB)),.p (.int .i64 (r.rests.length:Nat))] [.p (Pa ((Yx s).map (r.rests++ ·))),.p (.bool ((Yx s).map (r.rests++ ·)).isSome)]:=fun s hs=>by
    grind [jI,TH]
   have e1:(Xa x t sp 0 L0 (YZ r.rests (sp.length+1))).1.she=GO (WT (XP x t sp) 0 L0 (YZ r.rests (sp.length+1))):=by
    rw [h0r]
    split
    ·rfl
    ·rename_i c;rw [ND _ _ _ c];rfl
   have e2:decide ((Xa x t sp 0 L0 (YZ r.rests (sp.length+1))).2=0)=(WT (XP x t sp) 0 L0 (YZ r.rests (sp.length+1))).isSome:=by
    grind
   have hrp:=hrun (YZ r.rests (sp.length+1)) false hpl;have X8:XZ r.rests (sp.length+1)=GH r.rests (some (List.replicate (sp.length+1-r.rests.length) false)):=rfl;refine Zq (Weak.fz (o:=3) (by rfl)) (Zg [] _ _ _ _ (Vm ?_));rw [if_pos hpl];refine Yd hrp (Zc ?_);refine Yd (cn (List.replicate (sp.length+1-r.rests.length) false) hpl) ?_;simp (disch:=omega) only [e1,e2,go_sem,seval]
   have hfm:W7 Wb none ((XZ r.rests (sp.length+1)).filterMap (WT (XP x t sp) 0 L0))=W7 Wb (WT (XP x t sp) 0 L0 (YZ r.rests (sp.length+1))) ((GH r.rests (Yx (List.replicate (sp.length+1-r.rests.length) false))).filterMap (WT (XP x t sp) 0 L0)):=by
    rw [X8,Dr,List.filterMap_cons];rw [show r.rests++List.replicate (sp.length+1-r.rests.length) false=YZ r.rests (sp.length+1) from rfl]
    cases WT (XP x t sp) 0 L0 (YZ r.rests (sp.length+1)) with
    | none=>rfl
    | some L=>rfl
   clear X8;generalize W7 Wb none ((XZ r.rests (sp.length+1)).filterMap (WT (XP x t sp) 0 L0))=res at hfm ⊢;generalize (Xa x t sp 0 L0 (YZ r.rests (sp.length+1))).2=err0
   refine Zk [2,3,4,8,9] (fun q:Option (List Bool)×Option Lab=> [(7,.p (Pa (q.1.map (r.rests++ ·)))),(10,.p (.bool q.2.isSome)),(11,.p (.bool (q.1.map (r.rests++ ·)).isSome))])
    (fun q=> [Zh x,ZA r,.cells [.p (.bool false),.p (.int .i64 0),.p (.list true []),.p (.int .i64 0),.p (.int .i64 0)],.dead,.cells [.p (.bool (GO q.2).rest),.p (.int .i64 (GO q.2).dep),.p (.list (GO q.2).times_c ((GO q.2).times.map eTim)),.p (.int .i64 (GO q.2).fin),.p (.int .i64 (GO q.2).miles)]])
    (fun q=>res=W7 Wb q.2 ((GH r.rests q.1).filterMap (WT (XP x t sp) 0 L0))/\ ∀s,q.1=some s->s.length=sp.length+1-r.rests.length) (fun q=>(GH r.rests q.1).length)
    (Yx (List.replicate (sp.length+1-r.rests.length) false),WT (XP x t sp) 0 L0 (YZ r.rests (sp.length+1))) ⟨hfm,fun s hs=>by have:=fromB_next.nlen _ _ hs;grind⟩ (Weak.mk ?_) ?_
   ·simp (disch:=omega) only [Zh,ZA,go_sem,seval]
   ·rintro ⟨cur,b⟩ ⟨hR,hcl⟩;simp only at hR hcl
    cases cur with
    | none =>
     simp only [GH,List.filterMap_nil] at hR;simp (disch:=omega) only [Option.map_none,An,TS,Zh,ZA,go_sem,seval]
     cases b with
     | none =>
      rw [W7] at hR;subst hR;simp (disch:=omega) only [An,VV,go_sem,seval];exact we (by simp (disch:=omega) only [zShe,Zn,go_sem,seval])
     | some m =>
      rw [W7] at hR;subst hR;simp (disch:=omega) only [JM,VX,GO,go_sem,seval];exact we
    | some s =>
     have hsl2:=hcl s rfl;rw [Dr,List.filterMap_cons,hopt] at hR
     have hmu:(GH r.rests (Yx s)).length<(GH r.rests (some s)).length:=by rw [Dr];simp
     have hnl: ∀s',Yx s=some s'->s'.length=sp.length+1-r.rests.length:=fun s' hs'=>by grind [fromB_next.nlen]
     have hlen:(r.rests++s).length=r.visits.length+1:=by simp;omega
     have hr1:=hrun (r.rests++s) false hlen;have cn1:=cn s hlen;rw [XA] at hr1 cn1;simp (disch:=omega) only [Cn,JM,TT,Zh,ZA,go_sem,seval];generalize Xa x t sp 0 L0 (r.rests++s)=g at hR hr1;obtain ⟨Lg,eg⟩:=g;simp only at hR hr1;refine Yd hr1 (Zc ?_);refine gT ?_ ?_<;>intro h1<;>simp (disch:=omega) only [Sh.out h1,go_sem,seval,↓reduceIte]
     ·subst h1
      cases b with
      | none =>
       simp (disch:=omega) only [An,VV,go_sem,seval];refine Yd cn1 (Zc ?_);exact ⟨(Yx s,some Lg),⟨hR,hnl⟩,hmu,Weak.mk (by simp (disch:=omega) only [GO,JM,go_sem,seval])⟩
      | some m =>
       simp (disch:=omega) only [JM,VX,GO,go_sem,seval];refine cD ?_ ?_<;>intro h2<;>simp (disch:=omega) only [Sh.out h2,go_sem,seval,↓reduceIte]
       ·refine Yd cn1 ?_;refine Zc ?_;exact ⟨(Yx s,some Lg),⟨by rw [hR];simp only [if_true,W7,Wb,h2],hnl⟩,hmu,Weak.mk (by simp (disch:=omega) only [JM,go_sem,seval])⟩
       ·refine Yd cn1 ?_;refine Zc ?_;exact ⟨(Yx s,some m),⟨by rw [hR];simp only [if_true,W7,Wb,h2,YA],hnl⟩,hmu,Weak.mk (by simp (disch:=omega) only [JM,go_sem,seval])⟩
     ·rw [if_neg h1] at hR;refine Yd cn1 (Zc ?_);exact ⟨(Yx s,b),⟨hR,hnl⟩,hmu,wk⟩
def eR (p:Bool×List Int):PV:= .list p.1 (p.2.map eI)
@[go_sem] theorem ZpK (p:Bool×List Int):eR p= .list p.1 (p.2.map eI):=Zl rfl rfl
theorem fM (L:List (Bool×List Int)) (c:Bool) (d:Nat) (hd:d<=3) (hL:L.length<=1048576) (h: ∀p∈L,p.2.length=d):PC 283 [.p (.list c (L.map eR)),.p (.int .i64 (d:Nat))] (.bool true):=by
 refine Zd Tryz.func283 rfl Zcc ?_
 have e1: ¬(d:Int)<0:=Za
 have e2: ¬(3:Int)<d:=Za
 simp (disch:=omega) only [Tryz.f283,e1,e2,go_sem,seval];refine Zk [0,1] (fun k:Nat=> [(5,.p (.int .i64 k))]) (fun _=> []) (fun k=>k<=L.length) (fun k=>L.length-k) 0 Zb (Weak.mk ?_) ?_
 ·simp (disch:=omega) only [go_sem,seval,↓reduceIte]
 ·intro k hk;refine Zc ?_;refine cD ?_ ?_<;>intro h1<;>simp (disch:=omega) only [Sh.out h1,go_sem,seval,↓reduceIte]
  ·have hk2:k<L.length:=Za
   have hp:=h _ (Zo hk2);simp (disch:=omega) only [hp,go_sem,seval];exact ⟨k+1,Za,Za,wk⟩
def DS (L:List (Bool×List Int)) (k j:Nat):Int:=((L.take k).map fun p=>nth p.2 j).sum
theorem G8 {L:List (Bool×List Int)} {k j:Nat} (h:k<L.length):DS L (k+1) j=DS L k j+nth (nth L k).2 j:=by
 grind [DS,Xl,Zi]
theorem Mp {L:List (Bool×List Int)} {d j:Nat} (h: ∀p∈L,p.2.length=d/\ ∀n∈p.2,0<=n/\n<=1000) (hj:j<d): ∀k,k<=L.length->0<=DS L k j/\DS L k j<=1000*(k:Int)
 | 0,_=>by simp [DS]
 | k+1,hk=>by
  have ih:=Mp h hj k Za;obtain ⟨h1,h2⟩:=h _ (Zo (show k<L.length by omega));have:=h2 _ (Zo (show j<(nth L k).2.length by omega))
  grind [G8]
def tE (L:List (Bool×List Int)) (d:Nat):List Int:=(List.range d).map fun j=>DS L L.length j
theorem tD (L:List (Bool×List Int)) (c:Bool) (d:Nat) (hd:1<=d/\d<=3) (hL:L.length<=1048576) (h: ∀p∈L,p.2.length=d/\ ∀n∈p.2,0<=n/\n<=1000) :
  PT 247 [.p (.list c (L.map eR)),.p (.int .i64 (d:Nat))] [.p (.list false ((tE L d).map eI)),.p (.int .i64 0)]:=by
 refine Zf [13] Tryz.func247 rfl ZbN ?_;simp (disch:=omega) only [Tryz.f247,go_sem,seval];refine (fM L c d hd.2 hL fun p hp=>(h p hp).1).use (Zc ?_);refine ZO [13] [0,1] (fun q:Nat×List Int=> [(6,.sl 0 0 q.2.length q.2.length),(7,.p (.int .i64 q.1))]) (fun q=> [.elems 1 (q.2.map eI)]) (fun q=>q.1<=d/\q.2=(List.range q.1).map fun j=>DS L L.length j) (fun q=>d-q.1) (0,[]) Zb (Weak.ofNil 6 1 rfl Zb (Weak.mk ?_)) ?_
 ·simp (disch:=omega) only [Zn,Zz,go_sem,seval,↓reduceIte]
 ·rintro ⟨j,o⟩ ⟨hj,ho⟩;simp only at hj ho
  have hol:o.length=j:=by rw [ho];simp
  refine Zc ?_;refine cD ?_ ?_<;>intro h1<;>simp (disch:=omega) only [Sh.out h1,go_sem,seval,↓reduceIte]
  ·have hj2:j<d:=Za
   refine Zk [0,1,6,7] (fun k:Nat=> [(8,.p (.int .i64 (DS L k j))),(9,.p (.int .i64 k))]) (fun _=> [.elems 1 (o.map eI)]) (fun k=>k<=L.length) (fun k=>L.length-k) 0 Zb (Weak.mk ?_) ?_
   ·simp (disch:=omega) only [DS,Ya,Zn,List.sum_nil,go_sem,seval,↓reduceIte]
   ·intro k hk;refine Zc ?_;refine cD ?_ ?_<;>intro h2<;>simp (disch:=omega) only [Sh.out h2,go_sem,seval,↓reduceIte]
    ·have hk2:k<L.length:=Za
     obtain ⟨g1,g2⟩:=h _ (Zo hk2);have g3:=g2 _ (Zo (show j<(nth L k).2.length by omega));have g4:=Mp h hj2 k hk;have g5:=G8 (j:=j) hk2
     have g6:j<(nth L k).2.length:=Za
     refine Zc ?_;exact ⟨k+1,Za,Za,Weak.mk (by simp (disch:=omega) only [g5,go_sem,seval])⟩
    ·have hkl:k=L.length:=Za
     subst hkl;refine ⟨(j+1,o++ [DS L L.length j]),⟨Za,by grind [Yv]⟩,Za,Weak.mk (by simp (disch:=omega) only [ZG,Zw,Zz,XA,Zs,Zn,go_sem,seval])⟩
  ·have hjd:j=d:=Za
   subst hjd;refine Zq (Weak.fz (o:=0) (by rfl)) ?_;refine Zg [] _ _ _ _ ?_;simp (disch:=omega) only [Zs,Zn,Xe,go_sem,seval];rw [tE,<- ho];exact we
theorem fT (a b:List Int) (c d:Bool) (ha:a.length<=1048576) (hb:b.length<=1048576):PC 140 [.p (.list c (a.map eI)),.p (.list d (b.map eI))] (.bool (U9 a b)):=by
 refine Zd Tryz.func140 rfl ZaL ?_;simp (disch:=omega) only [Tryz.f140,go_sem,seval];refine cD ?_ ?_<;>intro h1<;>simp (disch:=omega) only [Sh.out h1,go_sem,seval]
 ·grind [U9]
 ·have h1':a.length=b.length:=Za
  refine Zk [0,1] (fun k:Nat=> [(5,.p (.int .i64 k))]) (fun _=> []) (fun k=>k<=a.length/\ ∀j,j<k->nth a j<=nth b j) (fun k=>a.length-k) 0 Zb (Weak.mk ?_) ?_
  ·simp (disch:=omega) only [go_sem,seval,↓reduceIte]
  ·rintro k ⟨hk,hno⟩;refine Zc ?_;refine cD ?_ ?_<;>intro h2<;>simp (disch:=omega) only [Sh.out h2,go_sem,seval,↓reduceIte]
   ·have hk2:k<a.length:=Za
    refine Xr (Zc ?_);refine cD ?_ ?_<;>intro h3<;>simp (disch:=omega) only [Sh.out h3,go_sem,seval,↓reduceIte]
    ·grind [U9]
    ·exact ⟨k+1,⟨Za,Zm.2 ⟨hno,Za⟩⟩,Za,wk⟩
   ·have hkl:k=a.length:=Za
    simp_all [U9]
theorem fD (x:Inst) (ht:x.types.length<=1048576):PC 248 [.p (ZE x)] (.int .i64 (dimsOf x.types)):=by
 refine Zd Tryz.func248 rfl ZbO ?_;simp (disch:=omega) only [Tryz.f248,go_sem,seval];refine cD ?_ ?_<;>intro h1<;>simp (disch:=omega) only [Sh.out h1,go_sem,seval,↓reduceIte]
 ·grind [dimsOf]
 simp_all [dimsOf]
structure LdOk (x:Inst):Prop where
 ord:x.orders.length<=10
 typ:x.types.length<=1048576
 dim:1<=dimsOf x.types/\dimsOf x.types<=3
 load: ∀o∈x.orders,(o.load.length:Int)=dimsOf x.types/\ ∀n∈o.load,0<=n/\n<=1000
theorem Qb {x:Inst} (h:InstOk x):LdOk x:=by
 have ht:=h.types.1;simp only [rng,Zp] at ht;have ho:=h.orders
 have h0:0<x.types.length:=Za
 have hcap:=h.types.2 0 h0;unfold A3 at hcap;obtain ⟨⟨⟨⟨⟨⟨⟨⟨_,_⟩,_⟩,_⟩,hcap⟩,_⟩,_⟩,_⟩,_⟩:=hcap;simp only [UK,Zy,Zp,rng] at hcap;refine ⟨ho.1,Za,Za,fun o hm=> ?_⟩;obtain ⟨i,hi,rfl⟩:=ZU.1 hm;have:=(ho.2 i hi).load;rw [Zi hi] at this
 simp_all [loadOk,rng]
def Gz (x:Inst) (l:List Vis) (n k:Nat):List (Bool×List Int):=((List.range k).filter fun i=>GF x l n i&&hasO l i).map fun i=>((nth x.orders i).load_c,(nth x.orders i).load)
theorem S0 {x:Inst} {l:List Vis} {n k:Nat} :Gz x l n (k+1)=Gz x l n k++if (GF x l n k&&hasO l k)=true then [((nth x.orders k).load_c,(nth x.orders k).load)] else []:=by
 grind [Gz,Yv]
theorem dU {x:Inst} {l:List Vis} {n:Nat} : ∀k,(Gz x l n k).length<=k:=fun k=>by
 grind [Gz]
theorem oZ {x:Inst} {l:List Vis} {n k:Nat} (h:LdOk x) (hk:k<=x.orders.length): ∀p∈Gz x l n k,p.2.length=(dimsOf x.types).toNat/\ ∀m∈p.2,0<=m/\m<=1000:=fun p hp=>by
 obtain ⟨i,hi,rfl⟩:=Xv.1 hp;have hi2:=ZP.1 (JB.1 hi).1;have:=h.load _ (Zo (show i<x.orders.length by omega))
 grind
theorem dV {x:Inst} {l:List Vis} {n:Nat} :tE (Gz x l n x.orders.length) (dimsOf x.types).toNat=Wl x l n:=by
 unfold tE Wl
 grind [DS,Gz,DY,JW]
def wH (x:Inst) (l:List Vis) (n i k:Nat):Bool:=(l.take (min k n)).foldl (fun on v=>if v.order=(i:Int) then !v.drp else on) (decide ((nth x.orders i).pick.place<0))
def OW (l:List Vis) (i k:Nat):Bool:=(l.take k).any fun v=>decide (v.order=(i:Int))
theorem jT {x:Inst} {l:List Vis} {n i k:Nat} (h:k<l.length):wH x l n i (k+1)=if (nth l k).order=(i:Int) then (if k<n then !(nth l k).drp else wH x l n i k) else wH x l n i k:=by
 grind [wH,Xl,Zi]
theorem Tl {l:List Vis} {i k:Nat} (h:k<l.length):OW l i (k+1)=if (nth l k).order=(i:Int) then true else OW l i k:=by
 grind [OW,Xl,Zi]
theorem rK {x:Inst} {l:List Vis} {n i:Nat} (h:n<=l.length):wH x l n i l.length=GF x l n i:=by
 grind [wH,GF]
theorem gV {l:List Vis} {i:Nat} :OW l i l.length=hasO l i:=by grind [OW,hasO]
theorem SC (x:Inst) (l:List Vis) (c:Bool) (n:Nat) (hx:LdOk x) (hl:l.length<=1048576) (hn:n<=l.length) :
  PT 185 [.p (ZE x),.p (.list c (l.map Z1)),.p (.int .i64 (n:Nat))] [.p (.list false ((Wl x l n).map eI)),.p (.int .i64 0)]:=by
 have ho:=hx.ord;refine Zf [15] Tryz.func185 rfl Zbh ?_;simp (disch:=omega) only [Tryz.f185,go_sem,seval];refine ZO [15] [1,2,3] (fun q:Nat×List (Bool×List Int)=> [(8,.sl 1 0 q.2.length q.2.length),(9,.p (.int .i64 q.1))]) (fun q=> [Zh x,.elems 1 (q.2.map eR)]) (fun q=>q.1<=x.orders.length/\q.2=Gz x l n q.1) (fun q=>x.orders.length-q.1) (0,[]) (by simp [Gz]) (Weak.ofNil 8 1 rfl Zb (Weak.mk ?_)) ?_
 ·simp (disch:=omega) only [Zh,Zn,Zz,ZW,ZM,go_sem,seval]
 ·rintro ⟨i,o⟩ ⟨hi,hob⟩;simp only at hi hob
  have hol:o.length<=i:=by grind [dU]
  refine VI ?_;refine cD ?_ ?_<;>intro h1<;>simp (disch:=omega) only [Sh.out h1,go_sem,seval,↓reduceIte]
  ·have hi2:i<x.orders.length:=Za
   refine Zk [1,2,3,8,9] (fun k:Nat=> [(10,.p (.bool (wH x l n i k))),(11,.p (.bool (OW l i k))),(12,.p (.int .i64 k))]) (fun _=> [Zh x,.elems 1 (o.map eR)]) (fun k=>k<=l.length) (fun k=>l.length-k) 0 Zb (Weak.mk ?_) ?_
   ·simp (disch:=omega) only [Zh,wH,OW,Nat.zero_min,Ya,VW,List.any_nil,go_sem,seval]
   ·intro k hk;refine VI ?_;refine cD ?_ ?_<;>intro h2<;>simp (disch:=omega) only [Sh.out h2,go_sem,seval,↓reduceIte]
    ·have hk2:k<l.length:=Za
     have s1:=jT (x:=x) (n:=n) (i:=i) hk2;have s2:=Tl (i:=i) hk2;refine ZI ?_ ?_<;>intro h3
     ·rw [if_neg h3] at s1 s2;exact ⟨k+1,Za,Za,Weak.mk (by simp (disch:=omega) only [s1,s2,go_sem,seval])⟩
     ·have h3':=Xs.1 h3;rw [if_pos h3'] at s1 s2;refine ZI ?_ ?_<;>intro h4
      ·rw [if_pos Za] at s1;exact ⟨k+1,Za,Za,Weak.mk (by simp (disch:=omega) only [s1,s2,go_sem,seval])⟩
      ·rw [if_neg Za] at s1;exact ⟨k+1,Za,Za,Weak.mk (by simp (disch:=omega) only [s1,s2,go_sem,seval])⟩
    ·have hkl:k=l.length:=Za
     subst hkl;have s3:=S0 (x:=x) (l:=l) (n:=n) (k:=i);rw [rK hn,gV];refine Bb ?_ ?_<;>intro h5
     ·refine ZI ?_ ?_<;>intro h6
      ·rw [h5,h6,Bool.and_self,if_pos rfl] at s3;exact ⟨(i+1,o++ [((nth x.orders i).load_c,(nth x.orders i).load)]),⟨Za,by grind⟩,Za,Weak.mk (by simp (disch:=omega) only [ZG,Zw,Zz,XA,Zs,Zn,go_sem,seval])⟩
      ·rw [h5,h6,Jx,if_neg Zb,Vw] at s3;exact ⟨(i+1,o),⟨Za,by grind⟩,Za,wk⟩
     ·have h5':GF x l n i=false:=Za
      rw [h5',UR,if_neg Zb,Vw] at s3;exact ⟨(i+1,o),⟨Za,by grind⟩,Za,wk⟩
  ·have hik:i=x.orders.length:=Za
   subst hik
   have hD:dimsOf x.types=((dimsOf x.types).toNat:Int):=by have:=hx.dim;omega
   have hok:=oZ (l:=l) (n:=n) hx (Zv _);rw [<- hob] at hok;have hs:=dV (x:=x) (l:=l) (n:=n);rw [<- hob] at hs;refine Zq (Weak.fz (o:=1) (by rfl)) (Zg [] _ _ _ _ (Vm ?_));refine (fD x hx.typ).use (Zc ?_);rw [hD];refine Yd (tD o false (dimsOf x.types).toNat (by have:=hx.dim;omega) Za hok) (Zc ?_);rw [<- hs];exact we
def nJ (l:List Int):PV:= .list false (l.map eI)
@[go_sem] theorem zQ (l:List Int):nJ l= .list false (l.map eI):=Zl rfl rfl
def Qg (x:Inst) (l:List Vis):List (List Int):=(List.range (l.length+1)).map (Wl x l)
theorem Ty (x:Inst) (r:Rte) (hx:InstOk x) (hl:r.visits.length<=1048576) (h0:Xw x r.visits=0) (hchk:PC 86 [.p (ZE x),.p (Z0 r)] (.int .i64 (Xw x r.visits))) :
  PT 139 [.p (ZE x),.p (Z0 r)] [.p (.list false ((Qg x r.visits).map nJ)),.p (.int .i64 0)]:=by
 have hd:=Qb hx;refine Zf [12] Tryz.func139 rfl ZaK ?_;simp (disch:=omega) only [Tryz.f139,go_sem,seval];refine (hchk).use (Zc ?_);simp (disch:=omega) only [h0,go_sem,seval];refine ZO [12] [2,3] (fun q:Nat×List (List Int)=> [(7,.sl 2 0 q.2.length q.2.length),(8,.p (.int .i64 q.1))]) (fun q=> [Zh x,ZA r,.elems 1 (q.2.map nJ)]) (fun q=>q.1<=r.visits.length+1/\q.2=(List.range q.1).map (Wl x r.visits)) (fun q=>r.visits.length+1-q.1) (0,[]) Zb (Weak.ofNil 7 1 rfl Zb (Weak.mk ?_)) ?_
 ·simp (disch:=omega) only [Zh,ZA,Zn,Zz,ZW,ZM,go_sem,seval]
 ·rintro ⟨k,o⟩ ⟨hk,ho⟩;simp only at hk ho
  have hol:o.length=k:=by rw [ho];simp
  refine J8 ?_;refine cD ?_ ?_<;>intro h1<;>simp (disch:=omega) only [Sh.out h1,go_sem,seval,↓reduceIte]
  ·refine Yd (SC x r.visits r.visits_c k hd hl Za) (Zc ?_);exact ⟨(k+1,o++ [Wl x r.visits k]),⟨Za,by grind [Yv]⟩,Za,Weak.mk (by simp (disch:=omega) only [ZG,Zw,Zz,XA,Zs,Zn,go_sem,seval])⟩
  ·have hkl:k=r.visits.length+1:=Za
   subst hkl;refine Zq (Weak.fz (o:=2) (by rfl)) (Zg [] _ _ _ _ (Vm ?_));rw [Qg,<- ho];exact we
theorem fU (x:Inst) (r:Rte) (hx:InstOk x) (hl:r.visits.length<=1048576) (hty:0<=r.typ/\r.typ<(x.types.length:Int)) (h0:Xw x r.visits=0) (hchk:PC 86 [.p (ZE x),.p (Z0 r)] (.int .i64 (Xw x r.visits))) :
  PC 88 [.p (ZE x),.p (Z0 r)] (.int .i64 (if UT x (ZN x r).cap r.visits=true then 0 else 17)):=by
 have hd:=Qb hx;have htl:=hd.typ
 have hti:r.typ.toNat<x.types.length:=Za
 have hcp:(nth x.types r.typ.toNat).cap.length<=3:=by
  have hcap:=hx.types.2 _ hti;unfold A3 at hcap;obtain ⟨⟨⟨⟨⟨⟨⟨⟨_,_⟩,_⟩,_⟩,hcap⟩,_⟩,_⟩,_⟩,_⟩:=hcap;simp only [UK,Zy,Zp,rng] at hcap;omega
 have hll:(Qg x r.visits).length=r.visits.length+1:=by simp [Qg]
 have hln: ∀k,k<r.visits.length+1->nth (Qg x r.visits) k=Wl x r.visits k:=fun k hk=>by
  grind [Zi,Qg]
 have hal: ∀k,(Wl x r.visits k).length<=3:=fun k=>by rw [EG];have:=hd.dim;omega
 have cl:=Ty x r hx hl h0 hchk;unfold ZN
 generalize hL:Qg x r.visits=L at *
 refine Zd Tryz.func88 rfl Zi5 ?_
 have e1: ¬r.typ<0:=Za
 have e2: ¬(x.types.length:Int)<=r.typ:=Za
 simp (disch:=omega) only [Tryz.f88,e1,e2,go_sem,seval];refine Yd cl (Zc ?_);refine Zk [2,3,5] (fun k:Nat=> [(7,.p (.int .i64 k))]) (fun _=> [Zh x,ZA r]) (fun k=>k<=r.visits.length+1/\ ∀j,j<k->U9 (Wl x r.visits j) (nth x.types r.typ.toNat).cap=true) (fun k=>r.visits.length+1-k) 0 Zb (Weak.mk ?_) ?_
 ·simp (disch:=omega) only [Zh,ZA,go_sem,seval]
 ·rintro k ⟨hk,hno⟩;simp (disch:=omega) only [Zh,ZA,hll,go_sem,seval];refine cD ?_ ?_<;>intro h1<;>simp (disch:=omega) only [Sh.out h1,go_sem,seval,↓reduceIte]
  ·have hk2:k<r.visits.length+1:=Za
   have hk3:k<L.length:=Za
   have hk4:=hal k;refine Xr ?_;simp (disch:=omega) only [hln k hk2,go_sem,seval];refine Zr (fT (Wl x r.visits k) (nth x.types r.typ.toNat).cap false (nth x.types r.typ.toNat).cap_c Za Za) (Zc ?_);refine ZI ?_ ?_<;>intro h2
   ·have h2':U9 (Wl x r.visits k) (nth x.types r.typ.toNat).cap=false:=by grind
    have: ¬UT x (nth x.types r.typ.toNat).cap r.visits=true:=fun h=>by
     grind [UT]
    grind
   ·exact ⟨k+1,⟨Za,Zm.2 ⟨hno,by grind⟩⟩,Za,wk⟩
  ·have:UT x (nth x.types r.typ.toNat).cap r.visits=true:=by
    grind [UT]
   grind
def Me (j:Nat):Int:=if j=63 then-9223372036854775808 else ((pw j:Nat):Int)
theorem Ra {j:Nat} (h:j<63):Me j=((pw j:Nat):Int):=by rw [Me,if_neg Za]
theorem Zdp {j:Nat} (h:j<=62):pw j<=4611686018427387904:=by have:=DN h;rwa [Nu] at this
theorem Mf {j:Nat} (h:j<=63):0<Me j↔j<63:=by
 grind [Me,lE]
theorem wT {S q:Nat} (hS:S<9223372036854775808) (h:q<=S):IntKind.i64.wrap (q:Int)=(q:Int):=by rw [IntKind.wrap_i64];omega
theorem Zdq {P:Program} {t:TypeId} {S j:Nat} (hS:S<9223372036854775808):Yg P .quo t (.p (.int .i64 (S:Int))) (.p (.int .i64 ((pw j:Nat):Int)))=some (.int .i64 ((S / pw j:Nat):Int)):=by
 have hp:=lE j;rw [cK Za]
 have e:(S:Int).tdiv ((pw j:Nat):Int)=((S / pw j:Nat):Int):=by
  rfl
 have hle:=Nat.div_le_self S (pw j);rw [e,wT hS hle]
theorem sN {P:Program} {t:TypeId} {S:Nat} :Yg P .rem t (.p (.int .i64 (S:Int))) (.p (.int .i64 2))=some (.int .i64 ((S%2:Nat):Int)):=by
 rfl
theorem ZjT {S j:Nat} (hS:S<9223372036854775808):(IntKind.i64.wrap ((S:Int) / ((pw j:Nat):Int))).tmod 2=((S / pw j%2:Nat):Int):=by
 have hle:=Nat.div_le_self S (pw j)
 grind [wT]
theorem jE {P:Program} {t:TypeId} {j:Nat} (h:j<63):Yg P .mul t (.p (.int .i64 ((pw j:Nat):Int))) (.p (.int .i64 2))=some (.int .i64 (Me (j+1))):=by
 grind [cI,Me,Zdp,pw,IntKind.wrap_i64]
theorem cN (t:Typ) (s:Int) (h1:t.skills<9223372036854775808) (h2:s<9223372036854775808):PC 87 [.p (WW t),.p (.int .i64 s)] (.bool (WK t s)):=by
 refine Zd Tryz.func87 rfl Zi4 ?_;simp (disch:=omega) only [Tryz.f87,go_sem,seval];refine gF ?_ ?_<;>intro c1<;>simp (disch:=omega) only [Sh.out c1,go_sem,seval,↓reduceIte]
 ·grind [WK]
 ·refine cD ?_ ?_<;>intro c2<;>simp (disch:=omega) only [Sh.out c2,go_sem,seval]
  ·grind [WK]
  ·obtain ⟨M,hM⟩: ∃M:Nat,t.skills=(M:Int):=⟨t.skills.toNat,Za⟩;obtain ⟨S,rfl⟩: ∃S:Nat,s=(S:Int):=⟨s.toNat,Za⟩
   have hMl:M<9223372036854775808:=Za
   have hSl:S<9223372036854775808:=Za
   have hab: ∀b:Bool,((List.range 63).all fun i=> !S.testBit i||M.testBit i)=b->WK t (S:Int)=b:=fun b hb=>by
    simp_all [WK]
   refine Zk [1,2] (fun j:Nat=> [(5,.p (.int .i64 (Me j)))]) (fun _=> [Yz t]) (fun j=>j<=63/\ ∀i,i<j->(!S.testBit i||M.testBit i)=true) (fun j=>63-j) 0 Zb (Weak.mk ?_) ?_
   ·simp (disch:=omega) only [Yz,hM,show Me 0=1 from rfl,go_sem,seval]
   ·rintro j ⟨hj,hno⟩;simp (disch:=omega) only [Yz,hM,go_sem,seval];refine cD ?_ ?_<;>intro c3<;>simp (disch:=omega) only [Sh.out c3,go_sem,seval,↓reduceIte]
    ·have hj2:j<63:=(Mf hj).1 c3;simp (disch:=omega) only [Ra hj2,ZjT hSl,IC,go_sem,seval];refine gT ?_ ?_<;>intro c4<;>simp (disch:=omega) only [Sh.out c4,Ra hj2,Zdq hMl,ZjT hSl,sN,jE hj2,IC,IB,go_sem,seval]
     ·refine cD ?_ ?_<;>intro c5<;>simp (disch:=omega) only [Sh.out c5,jE hj2,go_sem,seval]
      ·grind
      ·exact ⟨j+1,⟨Za,Zm.2 ⟨hno,by grind⟩⟩,Za,Weak.mk (by simp (disch:=omega) only [hM,go_sem,seval])⟩
     ·exact ⟨j+1,⟨Za,Zm.2 ⟨hno,by grind⟩⟩,Za,Weak.mk (by simp (disch:=omega) only [hM,go_sem,seval])⟩
    ·have hj63:j=63:=by
      rcases WS j 63 with h | h
      ·simp_all [Mf]
      ·omega
     simp_all
theorem OA (l:List Vis) (c:Bool) (n:Nat) (hn:n<l.length) (hl:l.length<=1048576):PC 144 [.p (.list c (l.map Z1)),.p (.int .i64 (n:Nat))] (.bool (Uf l n)):=by
 refine Zd Tryz.func144 rfl ZaP ?_;simp (disch:=omega) only [Tryz.f144,go_sem,seval];refine Zk [0,1] (fun k:Nat=> [(5,.p (.int .i64 k))]) (fun _=> []) (fun k=>k<=n/\ ∀j,j<k->(nth l j).order≠(nth l n).order) (fun k=>n-k) 0 Zb (Weak.mk ?_) ?_
 ·simp (disch:=omega) only [go_sem,seval,↓reduceIte]
 ·rintro k ⟨hk,hno⟩;refine Zc ?_;refine cD ?_ ?_<;>intro h1<;>simp (disch:=omega) only [Sh.out h1,go_sem,seval,↓reduceIte]
  ·have hk2:k<n:=Za
   have hk3:k<l.length:=Za
   refine Xr (Zc ?_);refine cD ?_ ?_<;>intro h2<;>simp (disch:=omega) only [Sh.out h2,go_sem,seval,↓reduceIte]
   ·grind [Uf,Ky]
   ·exact ⟨k+1,⟨Za,Zm.2 ⟨hno,h2⟩⟩,Za,wk⟩
  ·have hkn:k=n:=Za
   subst hkn
   have:Uf l k=true:=by
    unfold Uf;rw [XU,XY];intro v hv;obtain ⟨j,j1,j2,rfl⟩:=KW hv
    grind
   rw [this]
def Ux (c m o w:Int):AM.Obj:= .cells [.p (.int .i64 c),.p (.int .i64 m),.p (.int .i64 o),.p (.int .i64 w)]
theorem BH {x:Inst} {l:List Vis} {t:Int} : ∀n:Nat,(0<=(chgF x l t n).1/\(chgF x l t n).1<=n)/\(0<=(chgF x l t n).2/\(chgF x l t n).2<=n)
 | 0=>by simp [chgF]
 | n+1=>by
  have ih:=BH (x:=x) (l:=l) (t:=t) n
  grind [chgF]
theorem aJ (x:Inst) (r:Rte) (s:She) (hty:0<=r.typ/\r.typ<(x.types.length:Int)) (ho:x.orders.length<=1048576) (ht:x.types.length<=1048576) (hl:r.visits.length<=1048576) (hv:Inr x r.visits)
  (hc:0<=(ZN x r).fixed/\(ZN x r).fixed<=100000/\0<=(ZN x r).perMile/\(ZN x r).perMile<=100/\0<=(ZN x r).perTick/\(ZN x r).perTick<=100) (ho2:0<=(ZN x r).opn/\(ZN x r).opn<=4096)
  (hf: -4096<=s.fin/\s.fin<=8192) (hm:0<=s.miles/\s.miles<=1000000) :
  PC 90 [.p (ZE x),.p (Z0 r),.p (BR s)] (AQ (Dt x r s)):=by
 have hti:r.typ.toNat<x.types.length:=Za
 unfold Dt;have htd:nth x.types r.typ.toNat=ZN x r:=rfl
 generalize ZN x r=t at *
 have e1: ¬r.typ<0:=Za
 have e2: ¬(x.types.length:Int)<=r.typ:=Za
 have p1:0<=t.perMile*s.miles/\t.perMile*s.miles<=100*1000000:=⟨Uj Za Za,Vy Za Za Za Za⟩
 have hW: -8192<=s.fin-t.opn/\s.fin-t.opn<=8192:=Za
 have p2: -819200<=t.perTick*(s.fin-t.opn)/\t.perTick*(s.fin-t.opn)<=819200:=by
  generalize s.fin-t.opn=w at hW;have a1:=Bg hW.2 (show 0<=t.perTick by omega);have a2:=Bg hW.1 (show 0<=t.perTick by omega);omega
 have p3: -128<=(s.fin-t.opn).tdiv 64/\(s.fin-t.opn).tdiv 64<=128:=by
  grind
 have p4:0<=(s.fin-t.opn).tdiv 64*(s.fin-t.opn).tdiv 64/\(s.fin-t.opn).tdiv 64*(s.fin-t.opn).tdiv 64<=16384:=by
  generalize (s.fin-t.opn).tdiv 64=q at p3;refine ⟨?_,?_⟩
  ·rcases Au 0 q with h | h
   ·exact Uj h h
   ·exact Int.mul_nonneg_of_nonpos_of_nonpos h h
  ·rcases Au 0 q with h | h
   ·have:=Vy p3.2 p3.2 h Za;omega
   ·have h2:0<= -q:=Za
    have:=Vy (show-q<=128 by omega) (show-q<=128 by omega) h2 Za
    grind
 refine Zd Tryz.func90 rfl Zi6 ?_;simp (disch:=omega) only [Tryz.f90,e1,e2,htd,go_sem,seval];refine Zk [3,4,6,9] (fun k:Nat=> [(10,.p (.int .i64 k))]) (fun k=> [Zh x,ZA r,.cells [.p (.bool s.rest),.p (.int .i64 s.dep),.p (.list s.times_c (s.times.map eTim)),.p (.int .i64 s.fin),.p (.int .i64 s.miles)],Ux 0 0 0 0,Yz t,Ux (t.fixed+t.perMile*s.miles+t.perTick*(s.fin-t.opn)) (chgF x r.visits r.typ k).1 (chgF x r.visits r.typ k).2 ((s.fin-t.opn).tdiv 64*(s.fin-t.opn).tdiv 64)]) (fun k=>k<=r.visits.length) (fun k=>r.visits.length-k) 0 Zb (Weak.mk ?_) ?_
 ·simp (disch:=omega) only [Zh,ZA,Yz,Ux,chgF,go_sem,seval]
 ·intro k hk;have hch:=BH (x:=x) (l:=r.visits) (t:=r.typ) k;simp (disch:=omega) only [Zh,ZA,Yz,Ux,go_sem,seval];refine cD ?_ ?_<;>intro h1<;>simp (disch:=omega) only [Sh.out h1,go_sem,seval,↓reduceIte]
  ·have hk2:k<r.visits.length:=Za
   obtain ⟨v1,v2⟩:=hv _ (Zo hk2)
   have e3: ¬(nth r.visits k).order<0:=Za
   have e4: ¬(x.orders.length:Int)<=(nth r.visits k).order:=Za
   have v3:(nth r.visits k).order.toNat<x.orders.length:=Za
   simp (disch:=omega) only [e3,e4,go_sem,seval];refine (OA r.visits r.visits_c k hk2 hl).use (Zc ?_);have hcs:chgF x r.visits r.typ (k+1)=_:=chgF.eq_2 x r.visits r.typ k;refine ZI ?_ ?_<;>intro h2
   ·have h2': ¬Uf r.visits k=true:=by grind
    exact ⟨k+1,Za,Za,Weak.mk (by simp (disch:=omega) only [hcs,if_neg h2',go_sem,seval])⟩
   ·have h2':Uf r.visits k=true:=by grind
    refine Xr (Zc ?_);refine gT ?_ ?_<;>intro h3<;>simp (disch:=omega) only [Sh.out h3,go_sem,seval,↓reduceIte]
    ·refine cD ?_ ?_<;>intro h4<;>simp (disch:=omega) only [Sh.out h4,go_sem,seval,↓reduceIte]
     ·have hn:Xt (nth x.orders (nth r.visits k).order.toNat).now r.typ=true:=by simp [Xt,h3,h4]
      refine Xr (Zc ?_);refine Bb ?_ ?_<;>intro h5
      ·refine ZI ?_ ?_<;>intro h6
       ·have hl2:Xt (nth x.orders (nth r.visits k).order.toNat).last r.typ=true:=by simp [Xt,h5,h6]
        exact ⟨k+1,Za,Za,Weak.mk (by simp (disch:=omega) only [hcs,if_pos h2',hn,hl2,go_sem,seval,↓reduceIte])⟩
       ·have hl2:Xt (nth x.orders (nth r.visits k).order.toNat).last r.typ=false:=by simp_all [Xt]
        exact ⟨k+1,Za,Za,Weak.mk (by simp (disch:=omega) only [hcs,if_pos h2',hn,hl2,Vz,Yi,go_sem,seval,↓reduceIte])⟩
      ·have hl2:Xt (nth x.orders (nth r.visits k).order.toNat).last r.typ=false:=by simp_all [Xt]
       exact ⟨k+1,Za,Za,Weak.mk (by simp (disch:=omega) only [hcs,if_pos h2',hn,hl2,Vz,Yi,go_sem,seval,↓reduceIte])⟩
     ·have hn:Xt (nth x.orders (nth r.visits k).order.toNat).now r.typ=false:=by simp_all [Xt]
      refine Xr (Zc ?_);refine Bb ?_ ?_<;>intro h5
      ·refine ZI ?_ ?_<;>intro h6
       ·have hl2:Xt (nth x.orders (nth r.visits k).order.toNat).last r.typ=true:=by simp [Xt,h5,h6]
        exact ⟨k+1,Za,Za,Weak.mk (by simp (disch:=omega) only [hcs,if_pos h2',hn,hl2,Vz,Yi,go_sem,seval,↓reduceIte])⟩
       ·have hl2:Xt (nth x.orders (nth r.visits k).order.toNat).last r.typ=false:=by grind
        exact ⟨k+1,Za,Za,Weak.mk (by simp (disch:=omega) only [hcs,if_pos h2',hn,hl2,Vz,Yi,go_sem,seval,↓reduceIte])⟩
      ·have hl2:Xt (nth x.orders (nth r.visits k).order.toNat).last r.typ=false:=by simp_all [Xt]
       exact ⟨k+1,Za,Za,Weak.mk (by simp (disch:=omega) only [hcs,if_pos h2',hn,hl2,Vz,Yi,go_sem,seval,↓reduceIte])⟩
    ·have hn:Xt (nth x.orders (nth r.visits k).order.toNat).now r.typ=false:=by simp_all [Xt]
     refine Xr (Zc ?_);refine Bb ?_ ?_<;>intro h5
     ·refine ZI ?_ ?_<;>intro h6
      ·have hl2:Xt (nth x.orders (nth r.visits k).order.toNat).last r.typ=true:=by simp [Xt,h5,h6]
       exact ⟨k+1,Za,Za,Weak.mk (by simp (disch:=omega) only [hcs,if_pos h2',hn,hl2,Vz,Yi,go_sem,seval,↓reduceIte])⟩
      ·have hl2:Xt (nth x.orders (nth r.visits k).order.toNat).last r.typ=false:=by simp_all [Xt]
       exact ⟨k+1,Za,Za,Weak.mk (by simp (disch:=omega) only [hcs,if_pos h2',hn,hl2,Vz,Yi,go_sem,seval,↓reduceIte])⟩
     ·have hl2:Xt (nth x.orders (nth r.visits k).order.toNat).last r.typ=false:=by grind
      exact ⟨k+1,Za,Za,Weak.mk (by simp (disch:=omega) only [hcs,if_pos h2',hn,hl2,Vz,Yi,go_sem,seval,↓reduceIte])⟩
  grind
theorem SqOk.len {x:Inst} {l:List Vis} (h:SqOk x l) (hn:x.orders.length<=10):l.length<=20:=by
 have h1:=List.Nodup.length_le_of_subset (l₁ :=l) (l₂ :=(List.range 10).flatMap fun i:Nat=> [(⟨(i:Int),false⟩:Vis),⟨(i:Int),true⟩]) h.nd (fun v hv=>by
  obtain ⟨v1,v2⟩:=h.inr v hv;rw [Ws];refine ⟨v.order.toNat,ZP.2 Za,?_⟩;obtain ⟨o,d⟩:=v
  have e:((o.toNat:Nat):Int)=o:=by grind
  simp_all)
 have h2:((List.range 10).flatMap fun i:Nat=> [(⟨(i:Int),false⟩:Vis),⟨(i:Int),true⟩]).length=20:=rfl;omega
theorem SqOk.vis {x:Inst} {l:List Vis} (h:SqOk x l) {v:Vis} (hv:v∈l):K0 x v=true:=by
 obtain ⟨v1,v2⟩:=h.inr v hv;obtain ⟨i,hi⟩: ∃i:Nat,v.order=(i:Int):=⟨v.order.toNat,Za⟩;have ho:=h.own (i:=i) ⟨v,hv,hi⟩
 have hpl:0<=(stopV x v).place:=by
  unfold stopV;rw [hi,XO]
  cases hd:v.drp with
  | true=>exact ho.isD (by rw [<- hi,<- hd];exact hv)
  | false=>exact ho.isP (by rw [<- hi,<- hd];exact hv)
 simp [K0,RB,v1,v2,hpl]
theorem sC {x:Inst} {r:Rte} (h:SqOk x r.visits) (hn:x.orders.length<=10) (ht:0<=r.typ/\r.typ<(x.types.length:Int)):Ua x r=(decide (0<=r.start)&&decide (r.start<=4096)):=by
 have h1:r.visits.all (K0 x)=true:=Zt.2 fun v hv=>h.vis hv;have h2:=h.len hn
 grind [Ua]
theorem rC {n:Net} (h:netOk n):netR n/\ ∀a∈n.arcs,0<=a.miles/\a.miles<=10000:=by
 obtain ⟨⟨⟨h1,_⟩,h2⟩,h3⟩:=h
 have ha: ∀a∈n.arcs,nZ a/\0<=a.miles/\a.miles<=10000:=fun a hm=>by
  obtain ⟨i,hi,rfl⟩:=ZU.1 hm;have:=h3 i hi;unfold LY at this;rw [Zi hi] at this;obtain ⟨⟨⟨⟨⟨_,g1⟩,_⟩,g2⟩,g3⟩,g4⟩:=this;refine ⟨⟨g2,g3,fun p hp=> ?_⟩,g1.2.2.1,g1.2.2.2.1⟩;obtain ⟨j,hj,rfl⟩:=ZU.1 hp
  simp_all [KS,Zi,Ly,rng]
 exact ⟨⟨Za,Za,fun a hm=>(ha a hm).1⟩,fun a hm=>(ha a hm).2⟩
theorem U0 {x:Inst} (hx:InstOk x) {i:Nat} (hi:i<x.types.length):(0<=(nth x.types i).opn/\(nth x.types i).opn<=(nth x.types i).cls/\(nth x.types i).cls<=4096)/\(1<=(nth x.types i).drive/\(nth x.types i).drive<=4096)/\(0<=(nth x.types i).rest/\(nth x.types i).rest<=4096) /\
  (0<=(nth x.types i).fixed/\(nth x.types i).fixed<=100000/\0<=(nth x.types i).perMile/\(nth x.types i).perMile<=100/\0<=(nth x.types i).perTick/\(nth x.types i).perTick<=100)/\(0<=(nth x.types i).skills/\(nth x.types i).skills<=1073741823):=by
 have ht:=hx.types.2 i hi
 simp_all [A3,rng]
theorem Q8 {x:Inst} {r:Rte} (hx:InstOk x) (ht:0<=r.typ/\r.typ<(x.types.length:Int)) (h:SqOk x r.visits):TrpOk x (ZN x r) (Xp x r.visits):=by
 have hti:r.typ.toNat<x.types.length:=Za
 obtain ⟨t1,t2,t3,_⟩:=U0 hx hti;obtain ⟨n1,n2⟩:=rC hx.net;refine ⟨n1,n2,t1,t2,t3,fun s hs=> ?_,by rw [X4];exact h.len hx.orders.1⟩;obtain ⟨v,hv,rfl⟩:=Xv.1 hs;obtain ⟨v1,v2⟩:=h.inr v hv
 have hi:v.order.toNat<x.orders.length:=Za
 have ho:=hx.orders.2 _ hi;have hvis:=h.vis hv;have hp:=ho.pstp;have hd:=ho.dstp;simp only [stpOk,Zp] at hp hd;simp only [K0,Zy,Zp] at hvis;have h3:=hvis.2;unfold stopV at h3 ⊢
 grind
theorem NF {x t sp} (h:TrpOk x t sp): ∀(bs:List Bool) (k:Nat) (L:Lab),k+bs.length=sp.length+1->LabR k L->(Xa x t sp k L bs).2=0->LabR (sp.length+1) (Xa x t sp k L bs).1/\(bs≠ []->(Xa x t sp k L bs).1.she.fin=(Xa x t sp k L bs).1.ready)
 | [],k,L,hk,hl,h0=>by
  simp at hk;subst hk;exact ⟨hl,fun h=>absurd rfl h⟩
 | b::bs,k,L,hk,hl,h0=>by
  simp at hk;rw [Xa] at h0 ⊢
  split at h0
  ·rename_i c;rw [if_pos c];obtain ⟨h1,h2⟩:=NF h bs (k+1) _ Za (La h Za hl c) h0;refine ⟨h1,fun _=> ?_⟩
   cases bs with
   | nil =>
    simp at hk;subst hk;exact Ng (x:=x) (t:=t) (sp:=sp) (y:=L) (b:=b) (by rw [XP,if_pos c];rfl)
   | cons b2 bs=>grind
  omega
theorem EV {x t sp} {st:Int} {r:List Bool} (h:TrpOk x t sp) (hs:0<=st/\st<=4096) (hr:r.length<=sp.length+1) (h0:(Wn x t sp st r).2=0):(0<=(Wn x t sp st r).1.fin/\(Wn x t sp st r).1.fin<=8192)/\(0<=(Wn x t sp st r).1.miles/\(Wn x t sp st r).1.miles<=210000):=by
 have hL0:LabR 0 (Xk t st):=⟨by have:=h.opn;grind [Xk],by simp [Xk],by simp [Xk,zShe]⟩;have hl:=h.len
 have key: ∀bs∈XZ r (sp.length+1),(Xa x t sp 0 (Xk t st) bs).2=0->(0<=(Xa x t sp 0 (Xk t st) bs).1.she.fin/\(Xa x t sp 0 (Xk t st) bs).1.she.fin<=8192)/\(0<=(Xa x t sp 0 (Xk t st) bs).1.she.miles/\(Xa x t sp 0 (Xk t st) bs).1.she.miles<=210000):=fun bs hbs he=>by
  obtain ⟨q,hq,rfl⟩:=Xv.1 hbs;have hql:=bestF_len.fromB_len _ _ hq;simp at hql
  have hne:r++q≠ []:=fun e=>by
   simp_all
  obtain ⟨g1,g2⟩:=NF h (r++q) 0 _ (by simp;omega) hL0 he;rw [g2 hne];have:=g1.rdy;have:=g1.mil;omega
 unfold Wn at h0 ⊢
 cases hf:W7 Wb none ((XZ r (sp.length+1)).filterMap (WT (XP x t sp) 0 (Xk t st))) with
 | some L =>
  simp only;have:=bestF_len.fmL_mem _ _ hf
  grind [Y9]
 | none =>
  grind [zShe]
theorem SU (x:Inst) (r:Rte) (ho:x.orders.length<=1048576) (ht:x.types.length<=1048576) (hl:r.visits.length<=1048576) (hbad:Ua x r=false\/r.visits.length+1<r.rests.length) :
  PT 89 [.p (ZE x),.p (Z0 r)] [.p (BR zShe),.p (.int .i64 2)]:=by
 refine Zf [] Tryz.func89 rfl wA ?_;simp (disch:=omega) only [Tryz.f89,go_sem,seval];refine (FI x r ho ht hl).use (Zc ?_);refine gF ?_ ?_<;>intro h1<;>simp (disch:=omega) only [Sh.out h1,go_sem,seval,↓reduceIte]
 ·exact we (by simp (disch:=omega) only [zShe,Zn,go_sem,seval])
 ·have h2:r.visits.length+1<r.rests.length:=hbad.resolve_left (by grind);refine cD ?_ ?_<;>intro h3<;>simp (disch:=omega) only [Sh.out h3,go_sem,seval,↓reduceIte]
  ·exact we (by simp (disch:=omega) only [zShe,Zn,go_sem,seval])
  ·omega
theorem pD (x:Inst) (r:Rte) (hx:InstOk x) (hl:r.visits.length<=1048576):PC 86 [.p (ZE x),.p (Z0 r)] (.int .i64 (Xw x r.visits)):=by
 have hf:=YO hx;have hr:=hx.rules;obtain ⟨h1,h2⟩:=Qy.1 hr
 have ha:x.apart.length<=1048576:=by
  have h3:=(Qy.1 h1).1
  grind [Oa]
 have hb:x.before.length<=1048576:=by
  have h3:=(Qy.1 h2).1
  grind [Oa]
 have:=Pp x r (by have:=hf.len;omega) hl ha hb hf.plc
 grind [sM]
theorem mM {g:FuncId} {args:List V} {a b c:PV} {H:List AM.Obj} {K:V->List AM.Obj->Prop} (h:ACalls Tryz.prog g args [] fun x H'=>x= .tup [.p a,.p b,.p c]/\H'= []) (k:K (.tup [.p a,.p b,.p c]) H) (ha:Z9 0 args=true:=by rfl):ACalls Tryz.prog g args H K:=Gi h k ha
def Ko (x:Inst) (r:Rte):V:= .tup [.p (BR (ZY x r)),.p (AQ (XG x r)),.p (.int .i64 (evalE x r))]
theorem YB {x:Inst} {r:Rte} {e:Int} (h:evalE x r=e) (h0:e≠0):Ko x r= .tup [.p (BR zShe),.p (AQ zSco),.p (.int .i64 e)]:=by
 simp_all [Ko,ZY,XG]
theorem Jo (x:Inst) (r:Rte) (hx:InstOk x) (hl:r.visits.length<=1048576) (hrl:r.rests.length<=1048576):ACalls Tryz.prog 48 [.p (ZE x),.p (Z0 r)] [] fun y H'=>y=Ko x r/\H'= []:=by
 have hld:=Qb hx;have htl:=hld.typ;have hol:=hld.ord;have chk:=pD x r hx hl
 have htb:x.types.length<=6:=by have:=hx.types.1;simp only [rng,Zp] at this;omega
 refine Zf [] Tryz.func48 rfl ZiD ?_;simp (disch:=omega) only [Tryz.f48,go_sem,seval];refine gF ?_ ?_<;>intro h1<;>simp (disch:=omega) only [Sh.out h1,go_sem,seval,↓reduceIte]
 ·have e:Yf x r=2:=by rw [Yf,if_pos Za]
  rw [YB (e:=2) (by rw [evalE,e];rfl) Za];exact we (by simp (disch:=omega) only [zShe,zSco,Zn,go_sem,seval])
 ·refine cD ?_ ?_<;>intro h2<;>simp (disch:=omega) only [Sh.out h2,go_sem,seval,↓reduceIte]
  ·have e:Yf x r=2:=by simp_all [Yf]
   rw [YB (e:=2) (by rw [evalE,e];rfl) Za];exact we (by simp (disch:=omega) only [zShe,zSco,Zn,go_sem,seval])
  ·have hty:0<=r.typ/\r.typ<(x.types.length:Int):=Za
   have hti:r.typ.toNat<x.types.length:=Za
   refine (chk).use (Zc ?_);refine cD ?_ ?_<;>intro h3<;>simp (disch:=omega) only [Sh.out h3,go_sem,seval,↓reduceIte]
   ·have e:Yf x r=Xw x r.visits:=by simp_all [Yf]
    rw [YB (e:=Xw x r.visits) (by simp_all [evalE]) h3];exact we (by simp (disch:=omega) only [zShe,zSco,Zn,go_sem,seval])
   ·have h3':=Xs.1 h3;have hsq:=W4 h3'
    have hvn:0<r.visits.length:=by
     have:=hsq.ne
     grind
    have hok:=Q8 hx hty hsq;have hnum:=U0 hx hti
    have hr0:Yf x r=if (r.visits.any fun v=> !WK (ZN x r) (nth x.orders v.order.toNat).skills)=true then 18 else if UT x (ZN x r).cap r.visits=false then 17 else if ¬(0<=r.start/\r.start<=4096/\r.rests.length<=r.visits.length+1) then 2 else 0:=by
     rw [Yf,if_neg (fun h=>h hty),if_neg h3]
    have htyp:nth x.types r.typ.toNat=ZN x r:=rfl;rw [htyp] at hnum;have hf17:=fU x r hx hl hty h3' chk;have hposs:=sC hsq hol hty
    have hsk: ∀k,k<r.visits.length->(nth r.visits k).order.toNat<x.orders.length/\0<=(nth x.orders (nth r.visits k).order.toNat).skills/\(nth x.orders (nth r.visits k).order.toNat).skills<=1073741823:=fun k hk=>by
     obtain ⟨v1,v2⟩:=hsq.inr _ (Zo hk)
     have hi:(nth r.visits k).order.toNat<x.orders.length:=Za
     exact ⟨hi,(hx.orders.2 _ hi).skills⟩
    refine Zk [2,3,4,5] (fun k:Nat=> [(8,.p (.int .i64 k))]) (fun _=> [Zh x,ZA r,.cells [.p (.bool false),.p (.int .i64 0),.p (.list true []),.p (.int .i64 0),.p (.int .i64 0)],Ux 0 0 0 0])
     (fun k=>k<=r.visits.length/\ ∀j,j<k->WK (ZN x r) (nth x.orders (nth r.visits j).order.toNat).skills=true) (fun k=>r.visits.length-k) 0 Zb (Weak.mk ?_) ?_
    ·simp (disch:=omega) only [Zh,ZA,Ux,go_sem,seval]
    ·rintro k ⟨hk,hno⟩;simp (disch:=omega) only [Zh,ZA,Ux,go_sem,seval];refine cD ?_ ?_<;>intro h4<;>simp (disch:=omega) only [Sh.out h4,go_sem,seval,↓reduceIte]
     ·have hk2:k<r.visits.length:=Za
      obtain ⟨s1,s2,s3⟩:=hsk k hk2;obtain ⟨v1,v2⟩:=hsq.inr _ (Zo hk2);refine Xr ?_;simp (disch:=omega) only [htyp,go_sem,seval];refine Zr (cN (ZN x r) (nth x.orders (nth r.visits k).order.toNat).skills Za Za) (Zc ?_);refine ZI ?_ ?_<;>intro h5
      ·have e:Yf x r=18:=by
        rw [hr0,if_pos]
        grind [Zo]
       rw [YB (e:=18) (by rw [evalE,e];rfl) Za];exact we (by simp (disch:=omega) only [zShe,zSco,Zn,go_sem,seval])
      ·exact ⟨k+1,⟨Za,Zm.2 ⟨hno,by grind⟩⟩,Za,wk⟩
     ·have hkl:k=r.visits.length:=Za
      subst hkl
      have X8: ¬(r.visits.any fun v=> !WK (ZN x r) (nth x.orders v.order.toNat).skills)=true:=fun h=>by
       obtain ⟨v,hv,hb⟩:=YR.1 h;obtain ⟨j,hj,rfl⟩:=ZU.1 hv
       grind [Zi]
      rw [if_neg X8] at hr0;refine (hf17).use (Zc ?_)
      cases hlb:UT x (ZN x r).cap r.visits with
      | false =>
       have e:Yf x r=17:=by grind
       simp only [Yi,YA];refine Zc ?_;rw [YB (e:=17) (by rw [evalE,e];rfl) Za];exact we (by simp (disch:=omega) only [zShe,zSco,Zn,go_sem,seval])
      | true =>
       rw [hlb,if_neg Zb] at hr0;simp only [if_true];refine Zc ?_
       by_cases h6:0<=r.start/\r.start<=4096/\r.rests.length<=r.visits.length+1
       ·have e:Yf x r=0:=Za
        have hp:Ua x r=true:=by grind
        have ee:evalE x r=(Xh x r).2:=by rw [evalE,if_pos e]
        have cb:=dP x r hok Za htl hvn hp h6.2.2;have hbr:=EV hok ⟨h6.1,h6.2.1⟩ (by rw [X4];exact h6.2.2);have hbr:(Xh x r).2=0->_:=hbr
        change (Xh x r).2=0->(0<=(Xh x r).1.fin/\(Xh x r).1.fin<=8192)/\(0<=(Xh x r).1.miles/\(Xh x r).1.miles<=210000) at hbr
        have es:ZY x r=if (Xh x r).2=0 then (Xh x r).1 else zShe:=by rw [ZY,ee]
        have ep:XG x r=if (Xh x r).2=0 then Dt x r (Xh x r).1 else zSco:=by rw [XG,ee]
        unfold Ko;rw [ee,es,ep];clear ee es ep
        generalize Xh x r=q at *
        obtain ⟨sh,eb⟩:=q;simp only at cb hbr ⊢;refine Yd cb (Zc ?_);refine cD ?_ ?_<;>intro h7<;>simp (disch:=omega) only [Sh.out h7,go_sem,seval,↓reduceIte]
        ·exact we (by simp (disch:=omega) only [zShe,zSco,Zn,go_sem,seval])
        ·have h7':=Xs.1 h7
         try rw [if_pos h7',if_pos h7']
         subst h7';obtain ⟨g1,g2⟩:=hbr rfl;refine ZV 5 mixed Ze Ze (Zc ?_);refine Zr (aJ x r sh hty Za htl hl hsq.inr hnum.2.2.2.1 Za Za Za) (Zc ?_);exact we
       ·have e:Yf x r=2:=Za
        rw [YB (e:=2) (by rw [evalE,e];rfl) Za];refine Yd (SU x r Za htl hl ?_) ?_
        ·grind
        ·refine Zc ?_;exact we (by simp (disch:=omega) only [zShe,zSco,Zn,go_sem,seval])
theorem bG (x:Inst) (r:Rte) (hx:InstOk x) (hl:r.visits.length<=1048576) (hrl:r.rests.length<=1048576):PC 46 [.p (ZE x),.p (Z0 r)] (.int .i64 (evalE x r)):=by
 have ce:=Jo x r hx hl hrl;refine Zd Tryz.func46 rfl ZiB ?_;simp (disch:=omega) only [Tryz.f46,go_sem,seval];unfold Ko at ce;refine Gi ce ?_;simp (disch:=omega) only [go_sem,seval,↓reduceIte]
theorem Zdx {p q:Pt} {t:Int} (h1:p.t<=t) (h2:t<q.t) (hp:p.t<=p.a) (hq:q.t<=q.a):t<=GM p q t:=by
 unfold GM
 have hw:0<q.t-p.t:=Za
 have key:(t-p.a)*(q.t-p.t)<=(t-p.t)*(q.a-p.a)+q.t-p.t-1:=by
  have e:(t-p.t)*(q.a-p.a)-(t-p.a)*(q.t-p.t)=(t-p.t)*(q.a-q.t)+(p.a-p.t)*(q.t-t):=by
   grind
  have h3:0<=(t-p.t)*(q.a-q.t):=Uj Za Za;have h4:0<=(p.a-p.t)*(q.t-t):=Uj Za Za;omega
 have:=Int.le_ediv_of_mul_le hw key;omega
theorem oB {l:List Pt} {t:Int} (hl:WZ l):t<=Jh l t:=by
 obtain ⟨⟨hl1,hl2⟩,hpt⟩:=hl;unfold Jh
 split
 ·rename_i i hi;have hm:=VO hi;have hs:=Uv hi;simp at hm;simp only [QF,Zy,Zp] at hs;obtain ⟨⟨p1,p2,p3,p4⟩,_⟩:=hpt i Za;obtain ⟨⟨q1,q2,q3,q4⟩,q5⟩:=hpt (i+1) Za
  simp_all [Zdx]
 ·obtain ⟨⟨p1,p2,p3,p4⟩,_⟩:=hpt 0 Za;obtain ⟨⟨q1,q2,q3,q4⟩,_⟩:=hpt (l.length-1) Za;omega
theorem IZ {n:Net} {pr f t τ:Int} (hn:netR n) (h:(Ug n pr f t τ).2.2=0):τ<=(Ug n pr f t τ).1:=by
 unfold Ug at h ⊢
 split at h
 ·simp at h
 ·rename_i c1;rw [if_neg c1]
  split at h
  ·grind
  ·rename_i c2;rw [if_neg c2]
   split at h
   ·rename_i c3;rw [if_pos c3];have hA:=Ad c3;have h1:=oB (t:=τ) (hn.2.2 _ hA).1;have h2:=Q4 (t:=τ) (fun p hp=>((hn.2.2 _ hA).2.2 p hp).2.2) _ (Zv _)
    grind [Ir]
   ·simp at h
theorem G3 {x t sp} {st:Int} {r:List Bool} (hr:r.length<=sp.length+1) (h:(Wn x t sp st r).2=0): ∃bs:List Bool,bs.length=sp.length+1/\(Xa x t sp 0 (Xk t st) bs).2=0/\(Wn x t sp st r).1=(Xa x t sp 0 (Xk t st) bs).1.she:=by
 unfold Wn at h ⊢
 cases hf:W7 Wb none ((XZ r (sp.length+1)).filterMap (WT (XP x t sp) 0 (Xk t st))) with
 | none =>
  rw [hf] at h;simp only at h ⊢;exfalso
  have hm:YZ r (sp.length+1)∈XZ r (sp.length+1):=by
   grind [XZ,YZ,fromB_next]
  have h2:WT (XP x t sp) 0 (Xk t st) (YZ r (sp.length+1))=some (Xa x t sp 0 (Xk t st) (YZ r (sp.length+1))).1:=by rw [Y9,if_pos h]
  have h3:(Xa x t sp 0 (Xk t st) (YZ r (sp.length+1))).1∈(XZ r (sp.length+1)).filterMap (WT (XP x t sp) 0 (Xk t st)):=JL.2 ⟨_,hm,h2⟩;generalize (XZ r (sp.length+1)).filterMap (WT (XP x t sp) 0 (Xk t st))=l at hf h3
  cases l with
  | nil=>simp at h3
  | cons a l =>
   rw [W7] at hf;obtain ⟨z,e,_⟩:=V5 Wb l a
   grind
 | some L =>
  simp only;have hm:=bestF_len.fmL_mem _ _ hf;obtain ⟨bs,hbs,hrun⟩:=JL.1 hm;rw [Y9] at hrun
  split at hrun
  ·rename_i h5;simp at hrun;subst hrun;obtain ⟨q,hq,rfl⟩:=Xv.1 hbs;have hql:=bestF_len.fromB_len _ _ hq
   grind
  ·cases hrun
theorem Dd {β:Type} [Inhabited β] {a b:List β} (hl:a.length=b.length) (h: ∀j,j<a.length->nth a j=nth b j):a=b:=by
 grind [Qe,Zi]
theorem fJ (a b:List Bool) (c d:Bool) (ha:a.length<=1048576) (hb:b.length<=1048576):PC 224 [.p (.list c (a.map eB)),.p (.list d (b.map eB))] (.bool (decide (a=b))):=by
 refine Zd Tryz.func224 rfl Zby ?_;simp (disch:=omega) only [Tryz.f224,go_sem,seval];refine cD ?_ ?_<;>intro h1<;>simp (disch:=omega) only [Sh.out h1,go_sem,seval]
 ·rw [XK fun e=>h1 (by rw [e])]
 ·have hl:a.length=b.length:=Za
  refine Zk [0,1,12] (fun k:Nat=> [(13,.p (.int .i64 k))]) (fun _=> []) (fun k=>k<=a.length/\ ∀j,j<k->nth a j=nth b j) (fun k=>a.length-k) 0 Zb (Weak.mk ?_) ?_
  ·simp (disch:=omega) only [go_sem,seval,↓reduceIte]
  ·rintro k ⟨hk,hno⟩;refine Zc ?_;refine cD ?_ ?_<;>intro h2<;>simp (disch:=omega) only [Sh.out h2,go_sem,seval,↓reduceIte]
   ·have hk2:k<a.length:=Za
    refine Xr (Zc ?_);refine cD ?_ ?_<;>intro h3<;>simp (disch:=omega) only [Sh.out h3,go_sem,seval,↓reduceIte]
    ·rw [XK fun e=>by grind]
    ·exact ⟨k+1,⟨Za,Zm.2 ⟨hno,by grind⟩⟩,Za,wk⟩
   grind [Dd]
theorem fK (a b:List Vis) (c d:Bool) (ha:a.length<=1048576) (hb:b.length<=1048576):PC 223 [.p (.list c (a.map Z1)),.p (.list d (b.map Z1))] (.bool (decide (a=b))):=by
 refine Zd Tryz.func223 rfl Zbx ?_;simp (disch:=omega) only [Tryz.f223,go_sem,seval];refine cD ?_ ?_<;>intro h1<;>simp (disch:=omega) only [Sh.out h1,go_sem,seval]
 ·rw [XK fun e=>h1 (by rw [e])]
 ·have hl:a.length=b.length:=Za
  refine Zk [0,1,12] (fun k:Nat=> [(13,.p (.int .i64 k))]) (fun _=> []) (fun k=>k<=a.length/\ ∀j,j<k->nth a j=nth b j) (fun k=>a.length-k) 0 Zb (Weak.mk ?_) ?_
  ·simp (disch:=omega) only [go_sem,seval,↓reduceIte]
  ·rintro k ⟨hk,hno⟩;refine Zc ?_;refine cD ?_ ?_<;>intro h2<;>simp (disch:=omega) only [Sh.out h2,go_sem,seval,↓reduceIte]
   ·have hk2:k<a.length:=Za
    refine Xr (Zc ?_);refine cD ?_ ?_<;>intro h3<;>simp (disch:=omega) only [Sh.out h3,go_sem,seval,↓reduceIte]
    ·rw [XK fun e=>by grind]
    ·exact ⟨k+1,⟨Za,Zm.2 ⟨hno,DA.2 (by grind)⟩⟩,Za,wk⟩
   grind [Dd]
theorem Rk {n:Nat} (h:n<10):dec n= [UInt8.ofNat (48+n)]:=by rw [dec,dif_pos h]
theorem pQ {n:Nat} (h:10<=n) (h2:n<100):dec n= [UInt8.ofNat (48+n / 10),UInt8.ofNat (48+n%10)]:=by
 rw [dec,dif_neg Za,Rk Za];rfl
theorem LZ {s:List UInt8} {k k':IntKind} {a b:Int} (h:0<=a/\a<=b/\b<=(s.length:Int)):It (some .string) s (.p (.int k a)) (.p (.int k' b))=some (.p (.str ((s.take b.toNat).drop a.toNat))):=by
 simp_all [It]
def digT : List UInt8:=(List.range 36).map fun i=>UInt8.ofNat (if i<10 then 48+i else 87+i)
def smalT : List UInt8:=(List.range 100).flatMap fun i=> [UInt8.ofNat (48+i / 10),UInt8.ofNat (48+i%10)]
theorem pR : ∀n,n<10->(digT.take (n+1)).drop n= [UInt8.ofNat (48+n)]:=by decide
theorem lZ : ∀n,n<100->(smalT.take (2*n+2)).drop (2*n)= [UInt8.ofNat (48+n / 10),UInt8.ofNat (48+n%10)]:=by decide+kernel
theorem sY (n:Nat) (hn:n<100):PC 331 [.p (.int .i64 (n:Int))] (.str (dec n)):=by
 refine Zd Tryz.func331 rfl ZcV ?_;simp (disch:=omega) only [Tryz.f331,go_sem,seval];refine cD ?_ ?_<;>intro h<;>simp (disch:=omega) only [Sh.out h,go_sem,seval]
 ·rw [Rk Za,LZ (by simp;omega)]
  have e1:((n:Int)+1).toNat=n+1:=Za
  have e2:((n:Int)).toNat=n:=Za
  rw [e1,e2];refine (Z5 (fun z=>DX (some (V.p (PV.str z))) _) (pR n Za)).mpr ?_;simp (disch:=omega) only [go_sem,seval]
 ·rw [pQ Za hn,LZ (by simp;omega)]
  have e1:((n:Int)*2+2).toNat=2*n+2:=Za
  have e2:((n:Int)*2).toNat=2*n:=Za
  rw [e1,e2];refine (Z5 (fun z=>DX (some (V.p (PV.str z))) _) (lZ n Za)).mpr ?_;simp (disch:=omega) only [go_sem,seval]
theorem gG (n:Nat) (hn:n<100):PC 330 [.p (.int .i64 (n:Int)),.p (.int .i64 10)] (.str (dec n)):=by
 refine Zd Tryz.func330 rfl ZcU ?_
 have h0:(0:Int)<=(n:Int):=Za
 have h1:(n:Int)<100:=Za
 simp (disch:=omega) only [Tryz.f330,h0,h1,go_sem,seval];refine (sY n hn).use ?_;simp (disch:=omega) only [go_sem,seval]
theorem qP (n:Nat) (hn:n<100):PC 329 [.p (.int .i64 (n:Int))] (.str (dec n)):=by
 refine Zd Tryz.func329 rfl ZcT ?_;simp (disch:=omega) only [Tryz.f329,go_sem,seval];refine (gG n hn).use ?_;simp (disch:=omega) only [go_sem,seval]
theorem ZcW (n:Nat) (hn:n<100):PC 328 [.p (.int .i64 (n:Int))] (.str (dec n)):=by
 refine Zd Tryz.func328 rfl ZcS ?_;simp (disch:=omega) only [Tryz.f328,go_sem,seval];refine (qP n hn).use ?_;simp (disch:=omega) only [go_sem,seval]
theorem N4 (n a b:Int):PC 321 [.p (.int .i64 n),.p (.int .i64 a),.p (.int .i64 b)] (.bool (decide (a<=n)&&decide (n<=b))):=by
 refine Zd Tryz.func321 rfl ZcL ?_;simp (disch:=omega) only [Tryz.f321,go_sem,seval]
 repeat' (first | (refine gT ?_ ?_<;>intro hq<;>simp (disch:=omega) only [Sh.out hq,go_sem,seval,↓reduceIte]) | (refine UF (fun hq=> ?_) (fun hq=> ?_)<;>(try simp only [Zp,Yu,Xs] at hq)<;>simp (disch:=omega) only [Sh.out hq,go_sem,seval]) | (refine Jd (fun hq=> ?_) (fun hq=> ?_)<;>(try simp only [Zp,Yu,Xs] at hq)<;>simp (disch:=omega) only [Sh.out hq,go_sem,seval]))
 all_goals (simp;first | done | omega)
theorem kG (l:List Pt) (c:Bool) (hl:WZ l):PC 325 [.p (.list c (l.map Hd))] (.list true []):=by
 obtain ⟨⟨hl1,hl2⟩,hpt⟩:=hl;refine Zd Tryz.func325 rfl ZcP ?_
 have e1: ¬(l.length:Int)=0:=Za
 have e2: ¬(16:Int)<(l.length:Int):=Za
 simp (disch:=omega) only [Tryz.f325,e1,e2,go_sem,seval];refine Zk [0,19,20] (fun k:Nat=> [(3,.p (.list true [])),(21,.p (.int .i64 k))]) (fun _=> []) (fun k=>k<=l.length) (fun k=>l.length-k) 0 Zb (Weak.mk ?_) ?_
 ·simp (disch:=omega) only [go_sem,seval,↓reduceIte]
 ·intro k hk;refine Zc ?_;refine cD ?_ ?_<;>intro h<;>simp (disch:=omega) only [Sh.out h,go_sem,seval,↓reduceIte]
  ·have hk2:k<l.length:=Za
   obtain ⟨⟨p1,p2,p3,p4⟩,q⟩:=hpt k hk2;refine (ZcW k Za).use (Zc ?_);refine (N4 (nth l k).t 0 4096).use (Zc ?_);simp (disch:=omega) only [p1,p2,go_sem,seval];refine gF ?_ ?_<;>intro h3<;>simp (disch:=omega) only [Sh.out h3,go_sem,seval,↓reduceIte]
   ·omega
   ·refine cD ?_ ?_<;>intro h4<;>simp (disch:=omega) only [Sh.out h4,go_sem,seval,↓reduceIte]
    ·omega
    ·refine Xr (Zc ?_);refine gT ?_ ?_<;>intro h5<;>simp (disch:=omega) only [Sh.out h5,go_sem,seval,↓reduceIte]
     ·obtain ⟨r1,r2⟩:=q Za;refine gF ?_ ?_<;>intro h6<;>simp (disch:=omega) only [Sh.out h6,go_sem,seval,↓reduceIte]
      ·omega
      ·refine cD ?_ ?_<;>intro h7<;>simp (disch:=omega) only [Sh.out h7,go_sem,seval,↓reduceIte]
       ·omega
       ·exact ⟨k+1,Za,Za,wk⟩
     ·exact ⟨k+1,Za,Za,wk⟩
theorem Rh (p:Pt) (t:Int) (h:0<=p.t/\p.t<=4096) (ht:0<=t/\t<=1073741824):PC 327 [.p (Hd p),.p (.int .i64 t)] (.int .i64 (p.t-t)):=by
 refine Zd Tryz.func327 rfl ZcR ?_;simp (disch:=omega) only [Tryz.f327,go_sem,seval,↓reduceIte]
theorem sO (l:List Pt) (c:Bool) (hl:WZ l):PC 322 [.p (.list c (l.map Hd))] (.bool true):=by
 refine Zd Tryz.func322 rfl ZcM ?_;simp (disch:=omega) only [Tryz.f322,go_sem,seval];refine (kG l c hl).use ?_;simp (disch:=omega) only [go_sem,seval]
structure PosT (l:List Pt) (t:Int) (i:Nat):Prop where
 le:i<=l.length
 lo: ∀j,j<i->(nth l j).t<t
 hi: ∀j,i<=j->j<l.length->t<=(nth l j).t
theorem ZhN (l:List Pt) (c:Bool) (t:Int) (i:Nat) (hl:WZ l) (ht:0<=t/\t<=1073741824) (hi:PosT l t i):PT 326 [.p (.list c (l.map Hd)),.p (.int .i64 t),.fn (.func 327) [] []] [.p (.int .i64 (i:Int)),.p (.bool (decide (i<l.length)&&decide ((nth l i).t=t)))]:=by
 obtain ⟨⟨hl1,hl2⟩,hpt⟩:=hl;obtain ⟨hi1,hi2,hi3⟩:=hi;refine Zf [] Tryz.func326 rfl ZcQ ?_;simp (disch:=omega) only [Tryz.f326,go_sem,seval];refine Zk [0,1,2,8] (fun q:Nat×Nat=> [(9,.p (.int .i64 q.1)),(10,.p (.int .i64 q.2))]) (fun _=> []) (fun q=>q.1<=i/\i<=q.2/\q.2<=l.length) (fun q=>q.2-q.1) (0,l.length) (by simp;omega) (Weak.mk ?_) ?_
 ·simp (disch:=omega) only [go_sem,seval,↓reduceIte]
 ·rintro ⟨a,b⟩ ⟨h1,h2,h3⟩;simp only at h1 h2 h3;refine Zc ?_;refine cD ?_ ?_<;>intro h<;>simp (disch:=omega) only [Sh.out h,go_sem,seval,↓reduceIte]
  ·have hm:(a+b) / 2<l.length:=Za
   obtain ⟨⟨p1,p2,p3,p4⟩,q⟩:=hpt _ hm
   have hs:((a:Int)+(b:Int)).fdiv (2^min 1 64)=(((a+b) / 2:Nat):Int):=by
    grind
   have em:((((a+b) / 2:Nat)):Int).toNat=(a+b) / 2:=Za
   have hnb:((a+b) / 2<i)↔(nth l ((a+b) / 2)).t-t<0:=by
    grind
   rw [hs];refine Zc ?_;refine (Rh (nth l ((a+b) / 2)) t ⟨p1,p2⟩ ht).use (Zc ?_);refine cD ?_ ?_<;>intro h4<;>simp (disch:=omega) only [Sh.out h4,go_sem,seval,↓reduceIte]
   ·exact ⟨((a+b) / 2+1,b),⟨Za,h2,h3⟩,Za,wk⟩
   ·exact ⟨(a,(a+b) / 2),⟨h1,Za,Za⟩,Za,wk⟩
  ·have:a=i:=Za
   subst this;refine gT ?_ ?_<;>intro h4<;>simp (disch:=omega) only [Sh.out h4,go_sem,seval,↓reduceIte]
   ·have hm:a<l.length:=Za
    obtain ⟨⟨p1,p2,p3,p4⟩,q⟩:=hpt _ hm;refine (Rh (nth l a) t ⟨p1,p2⟩ ht).use (Zc ?_);have e5:((nth l a).t-t=0)=((nth l a).t=t):=propext Za;exact we (by simp (disch:=omega) only [e5,hm,go_sem,seval])
   ·have hm: ¬a<l.length:=Za
    exact we (by simp (disch:=omega) only [hm,go_sem,seval])
theorem CB {l:List Pt} (hl:WZ l) {k:Nat} (hk:k<l.length): ∀j,j<k->(nth l j).t<(nth l k).t:=by
 obtain ⟨_,hpt⟩:=hl
 induction k with
 | zero=>omega
 | succ k ih =>
  intro j hj;obtain ⟨_,q⟩:=hpt (k+1) hk
  grind
theorem sB {l:List Pt} (hl:WZ l) (t:Int): ∃i,PosT l t i:=by
 have: ∀n,n<=l.length-> ∃i,i<=n/\(∀j,j<i->(nth l j).t<t)/\(i<n->t<=(nth l i).t):=by
  intro n
  induction n with
  | zero=>simp
  | succ n ih =>
   grind
 obtain ⟨i,h1,h2,h3⟩:=this l.length (Zv _);refine ⟨i,h1,h2,fun j hj hjl=> ?_⟩;rcases Nat.lt_or_eq_of_le hj with h | h
 ·have:=CB hl hjl i h;omega
 grind
theorem oA {l:List Pt} {t:Int} {i:Nat} (hl:WZ l) (h:PosT l t i) (hi:i<l.length) (e:(nth l i).t=t):Jh l t=(nth l i).a:=by
 by_cases g:i+1<l.length
 ·have m:=CB hl g i Za;rw [Is g (fun j hj=> ?_) (by grind [QF]),GM]
  ·rw [e,Int.sub_self,Int.zero_mul,Aw];rw [Int.ediv_eq_zero_of_lt Za Za];omega
  ·have:(nth l (j+1)).t<=t:=by
    rcases Nat.lt_or_eq_of_le (show j+1<=i by omega) with h1 | h1
    ·have:=h.lo _ h1;omega
    grind
   simp [QF];omega
 ·have hi1:i=l.length-1:=Za
  rw [D1 (fun j hj=> ?_)]
  ·split
   ·grind
   ·have:i=0:=by
     by_cases g2:i=0
     ·exact g2
     ·have:=h.lo 0 Za;omega
    grind
  ·have:(nth l (j+1)).t<=t:=by
    rcases Nat.lt_or_eq_of_le (show j+1<=i by omega) with h1 | h1
    ·have:=h.lo _ h1;omega
    grind
   simp [QF];omega
theorem oD {l:List Pt} {t:Int} (hl:WZ l) (h:PosT l t 0) (e: ¬(nth l 0).t=t):Jh l t=t+(nth l 0).a-(nth l 0).t:=by
 have h0:=h.hi 0 (Zv _) hl.1.1;rw [D1 (fun j hj=> ?_),if_neg Za]
 have:t<(nth l j).t:=by
  by_cases g:j=0
  ·grind
  ·have:=CB hl (show j<l.length by omega) 0 Za;omega
 simp [QF];omega
theorem oC {l:List Pt} {t:Int} (h:PosT l t l.length) (hl:0<l.length):Jh l t=t+(nth l (l.length-1)).a-(nth l (l.length-1)).t:=by
 rw [D1 (fun j hj=> ?_),if_pos (h.lo 0 hl)];have:=h.lo (j+1) hj;simp [QF];omega
theorem dE {l:List Pt} {t:Int} {i:Nat} (h:PosT l t i) (h0:0<i) (hi:i<l.length) (e: ¬(nth l i).t=t):Jh l t=GM (nth l (i-1)) (nth l i) t:=by
 have e1:i-1+1=i:=Za
 have h1:=h.lo (i-1) Za;have h2:=h.hi i (Zv _) hi;have:=Is (l:=l) (t:=t) (i:=i-1) Za (fun j hj=>by have:=h.lo (j+1) Za;simp [QF];omega) (by grind [QF]);rw [this,e1]
theorem HR {p q:Pt} {t:Int} (h1:p.t<=t) (h2:t<q.t) (hp:0<=p.t) (hq:q.t<=4096) (ha:p.a<=q.a) (hpa:0<=p.a) (hqa:q.a<=8192) :
  IntKind.i64.wrap (p.a+IntKind.i64.wrap ((IntKind.i64.wrap (IntKind.i64.wrap (IntKind.i64.wrap ((t-p.t)*(q.a-p.a))+(q.t-p.t))-1)).tdiv (q.t-p.t)))=GM p q t:=by
 have hm:=F2 h1 h2 hp hq ha hpa hqa;unfold GM;generalize hM:(t-p.t)*(q.a-p.a)=m at hm
 have hd:0<=(m+(q.t-p.t)-1) / (q.t-p.t)/\(m+(q.t-p.t)-1) / (q.t-p.t)<=m+(q.t-p.t)-1:=by
  refine ⟨Int.ediv_nonneg Za Za,Int.ediv_le_self _ Za⟩
 rw [IntWalk.i64_in m Za,IntWalk.i64_in (m+(q.t-p.t)) Za,IntWalk.i64_in (m+(q.t-p.t)-1) Za,Ea Za,IntWalk.i64_in ((m+(q.t-p.t)-1) / (q.t-p.t)) Za,IntWalk.i64_in _ Za]
 congr 2
 omega
theorem Pd (l:List Pt) (c:Bool) (t:Int) (hl:WZ l) (ht:0<=t/\t<=1073741824):PC 323 [.p (.list c (l.map Hd)),.p (.int .i64 t)] (.int .i64 (Jh l t)):=by
 obtain ⟨i,hi⟩:=sB hl t;have hl':=hl;obtain ⟨⟨hl1,hl2⟩,hpt⟩:=hl';refine Zd Tryz.func323 rfl ZcN ?_;simp (disch:=omega) only [Tryz.f323,go_sem,seval];refine Yd (ZhN l c t i hl ht hi) (Zc ?_);obtain ⟨i1,i2,i3⟩:=id hi;refine cD ?_ ?_<;>intro h<;>simp (disch:=omega) only [Sh.out h,go_sem,seval,↓reduceIte]
 ·grind [oA]
 ·refine cD ?_ ?_<;>intro h0<;>simp (disch:=omega) only [Sh.out h0,go_sem,seval]
  ·have:i=0:=Za
   subst this;obtain ⟨p1,p2⟩:=hpt 0 Za;rw [oD hl hi (fun g=>h ⟨Za,g⟩)];refine Xr ?_;simp (disch:=omega) only [go_sem,seval,↓reduceIte]
  ·refine cD ?_ ?_<;>intro h1<;>simp (disch:=omega) only [Sh.out h1,go_sem,seval]
   ·have:i=l.length:=Za
    subst this;obtain ⟨p1,p2⟩:=hpt (l.length-1) Za;rw [oC hi Za]
    have e1:((l.length:Int)-1).toNat=l.length-1:=Za
    refine Xr ?_;simp (disch:=omega) only [go_sem,seval,↓reduceIte]
   ·have g1:i<l.length:=Za
    rw [dE hi Za g1 (fun g=>h ⟨g1,g⟩)];have g2:=CB hl g1 (i-1) Za;obtain ⟨p1,p2⟩:=hpt i g1;obtain ⟨p3,p4⟩:=hpt (i-1) Za
    have e1:((i:Int)-1).toNat=i-1:=Za
    have q1:=i2 (i-1) Za;have q2:=i3 i (Zv _) g1;have q3: ¬(nth l i).t=t:=fun g=>h ⟨g1,g⟩;have q4:=p2 Za;refine XI [9,10,11] 12 mixed Ze Ze Ze Zb ?_;simp (disch:=omega) only [e1,go_sem,seval];refine QT 9 10 _ _ _ _ Ze (by refine Zc ?_;exact ⟨rfl,rfl⟩) (by refine Zc ?_;exact ⟨rfl,rfl⟩) ?_ ?_
    ·refine ZL 10 _ _ Ze (by refine Zc ?_;exact ⟨rfl,rfl⟩) (ZL 11 _ _ Ze (by refine Zc ?_;exact ⟨rfl,rfl⟩) (Yo ?_));refine Zc ?_;refine Xr (Zc ?_);exact Z5 (fun z=>V.p (PV.int IntKind.i64 z)) (HR Za Za Za Za Za Za Za)
    ·refine ZL 9 _ _ Ze (by refine Zc ?_;exact ⟨rfl,rfl⟩) (ZL 11 _ _ Ze (by refine Zc ?_;exact ⟨rfl,rfl⟩) (Yo ?_));refine Zc ?_;refine Xr (Zc ?_);exact Z5 (fun z=>V.p (PV.int IntKind.i64 z)) (HR Za Za Za Za Za Za Za)
theorem TW (l:List Pt) (c:Bool) (t:Int) (hl:WZ l) (ht:0<=t/\t<=1073741824):PC 317 [.p (.list c (l.map Hd)),.p (.int .i64 t)] (.int .i64 (Jh l t)):=by
 refine Zd Tryz.func317 rfl ZcH ?_;simp (disch:=omega) only [Tryz.f317,go_sem,seval];refine (N4 t 0 1073741824).use (Zc ?_);simp (disch:=omega) only [ht,go_sem,seval];refine (sO l c hl).use (Zc ?_);refine (Pd l c t hl ht).use ?_;simp (disch:=omega) only [go_sem,seval]
theorem Np (n:Net) (p:Int) (hn:n.places.length<=1048576):PC 301 [.p (BQ n),.p (.int .i64 p)] (.bool (KG n p)):=by
 refine Zd Tryz.func301 rfl Zct ?_;simp (disch:=omega) only [Tryz.f301,go_sem,seval];refine gT ?_ ?_<;>intro h<;>simp (disch:=omega) only [Sh.out h,go_sem,seval,↓reduceIte]
 ·simp [KG,h]
 ·simp [KG,h]
theorem tQ (a:Arc):PC 316 [.p (WV a)] (.agg [.int .i64 a.src,.int .i64 a.dst,.int .i64 a.prof]):=by
 refine Zd Tryz.func316 rfl ZcG ?_;simp (disch:=omega) only [Tryz.f316,go_sem,seval,↓reduceIte]
theorem rP (a:Arc) (t:Int) (ha:nZ a) (ht:0<=t/\t<=1073741824):PC 303 [.p (WV a),.p (.int .i64 t)] (.int .i64 (Ir a t)):=by
 obtain ⟨h1,h2,h3⟩:=ha;have hr:=EP h1 ht;have hs:=Q4 (t:=t) (fun p hp=>(h3 p hp).2.2);refine Zd Tryz.func303 rfl Zcv ?_;simp (disch:=omega) only [Tryz.f303,go_sem,seval];refine (TW a.travel a.travel_c t h1 ht).use (Zc ?_);refine Zk [1,13,14] (fun k:Nat=> [(5,.p (.int .i64 (Jh a.travel t+J6 a.slow t k))),(15,.p (.int .i64 k))]) (fun _=> [W6 a]) (fun k=>k<=a.slow.length) (fun k=>a.slow.length-k) 0 Zb (Weak.mk ?_) ?_
 ·simp (disch:=omega) only [W6,J6,VW,go_sem,seval];simp
 ·intro k hk;have hsk:=hs k hk;simp (disch:=omega) only [W6,go_sem,seval];refine cD ?_ ?_<;>intro h<;>simp (disch:=omega) only [Sh.out h,go_sem,seval,↓reduceIte]
  ·have hk2:k<a.slow.length:=Za
   have hp:=h3 _ (ZF hk2);have hsn:=Bq (t:=t) hk2;refine ZI ?_ ?_<;>intro h4
   ·rw [if_pos h4] at hsn;exact ⟨k+1,Za,Za,Weak.mk (by simp (disch:=omega) only [hsn,Int.add_assoc,go_sem,seval])⟩
   ·rw [if_neg h4] at hsn;exact ⟨k+1,Za,Za,Weak.mk (by simp (disch:=omega) only [hsn,go_sem,seval])⟩
  grind [Ir]
theorem rS (n:Net) (pr f t:Int) (hn:n.arcs.length<=1048576):PT 302 [.p (BQ n),.p (.int .i64 pr),.p (.int .i64 f),.p (.int .i64 t)] [.p (WV (WM n pr f t).1),.p (.bool (WM n pr f t).2)]:=by
 refine Zf [] Tryz.func302 rfl Zcu ?_;simp (disch:=omega) only [Tryz.f302,go_sem,seval];refine Zk [8,10,18,19] (fun k:Nat=> [(20,.p (.int .i64 k))]) (fun _=>Z7 n++ [W6 V0,.cells [.p (.int .i64 f),.p (.int .i64 t),.p (.int .i64 pr)]]) (fun k=>k<=n.arcs.length/\ ∀j,j<k->Vr pr f t (nth n.arcs j)=false) (fun k=>n.arcs.length-k) 0 Zb (Weak.mk ?_) ?_
 ·simp (disch:=omega) only [Z7,W6,V0,Zn,ZW,ZM,go_sem,seval]
 ·rintro k ⟨hk,hno⟩;simp (disch:=omega) only [Z7,W6,V0,Zn,ZW,ZM,go_sem,seval];refine cD ?_ ?_<;>intro h<;>simp (disch:=omega) only [Sh.out h,go_sem,seval,↓reduceIte]
  ·have hk2:k<n.arcs.length:=Za
   have nx:Vr pr f t (nth n.arcs k)=false-> ∀j,j<k+1->Vr pr f t (nth n.arcs j)=false:=fun h=>Zm.2 ⟨hno,h⟩;refine Xr (Zc ?_);refine Zr (tQ (nth n.arcs k)) (Zc ?_);refine ZI ?_ ?_<;>intro h1
   ·have e:=MG hk2 hno (by simp [Vr,h1]);obtain ⟨rfl,rfl,rfl⟩:=h1;rw [e];exact we
   ·have e2:Vr pr f t (nth n.arcs k)=false:=by
     simp_all [Vr]
    exact ⟨k+1,⟨Za,nx e2⟩,Za,wk⟩
  ·have hkn:k=n.arcs.length:=Za
   subst hkn;rw [MH hno];exact we (by simp (disch:=omega) only [V0,Zn,go_sem,seval])
theorem ZjK (n:Net) (pr f t τ:Int) (hn:netR n) (hτ:0<=τ/\τ<=1073741824):PT 278 [.p (BQ n),.p (.int .i64 pr),.p (.int .i64 f),.p (.int .i64 t),.p (.int .i64 τ)] [.p (.int .i64 (Ug n pr f t τ).1),.p (.int .i64 (Ug n pr f t τ).2.1),.p (.int .i64 (Ug n pr f t τ).2.2)]:=by
 refine Zf [] Tryz.func278 rfl Zcb ?_;simp (disch:=omega) only [Tryz.f278,go_sem,seval];refine (Np n f hn.1).use (Zc ?_);refine gF ?_ ?_<;>intro h1<;>simp (disch:=omega) only [Sh.out h1,go_sem,seval,↓reduceIte]
 ·have e:Ug n pr f t τ=(0,0,11):=by grind [Ug]
  rw [e];exact we
 ·simp only [XN] at h1;refine (Np n t hn.1).use (Zc ?_);refine cD ?_ ?_<;>intro h2<;>simp (disch:=omega) only [Sh.out h2,go_sem,seval]
  ·have e:Ug n pr f t τ=(0,0,11):=by grind [Ug]
   rw [e];exact we
  ·simp only [XN] at h2;refine cD ?_ ?_<;>intro h3<;>simp (disch:=omega) only [Sh.out h3,go_sem,seval,↓reduceIte]
   ·have e:Ug n pr f t τ=(τ,0,0):=by grind [Ug]
    rw [e];exact we
   ·have cf:=rS n pr f t hn.2.1;have hm:= @Ad n pr f t
    have e0:Ug n pr f t τ=if (WM n pr f t).2=true then (Ir (WM n pr f t).1 τ,(WM n pr f t).1.miles,0) else (0,0,12):=by grind [Ug]
    rw [e0];generalize WM n pr f t=A at cf hm ⊢;obtain ⟨a,b⟩:=A;simp only at cf hm ⊢;refine Yd cf (Zc ?_);refine cD ?_ ?_<;>intro h4<;>simp (disch:=omega) only [Sh.out h4,go_sem,seval]
    ·have hb:b=false:=by grind
     subst hb;exact we (by simp (disch:=omega) only [go_sem,seval,↓reduceIte])
    ·have hb:b=true:=by grind
     subst hb;refine Xr (Zc ?_);refine Zr (rP a τ (hn.2.2 a (hm rfl)) hτ) (Zc ?_);exact we
def Oz (s:Stp) (a:Int):Int×Int:=if max a s.opn>s.cls then (0,14) else (max a s.opn,0)
theorem oW (s:Stp) (a:Int):PT 304 [.p (IS s),.p (.int .i64 a)] [.p (.int .i64 (Oz s a).1),.p (.int .i64 (Oz s a).2)]:=by
 refine Zf [] Tryz.func304 rfl Zcw ?_;simp (disch:=omega) only [Tryz.f304,go_sem,seval];refine cD ?_ ?_<;>intro h<;>simp (disch:=omega) only [Sh.out h,go_sem,seval]
 ·have e:Oz s a=(0,14):=by simp_all [Oz]
  rw [e];exact we
 ·have e:Oz s a=(max a s.opn,0):=by simp_all [Oz]
  rw [e];exact we
theorem kM (l:List Ord) (c:Bool) (p:Int) (hl:l.length<=1048576):PC 236 [.p (.list c (l.map eOrd)),.p (.int .i64 p)] (.bool (decide (0<=p)&&decide (p<(l.length:Int)))):=by
 refine Zd Tryz.func236 rfl iC ?_;simp (disch:=omega) only [Tryz.f236,go_sem,seval];refine gT ?_ ?_<;>intro h<;>simp (disch:=omega) only [Sh.out h,go_sem,seval,↓reduceIte]
 all_goals simp [h]
theorem rU (x:Inst) (v:Vis) (ho:x.orders.length<=1048576) (hv:RB x v=true) (hp:0<=(stopV x v).place):PT 241 [.p (.list x.orders_c (x.orders.map eOrd)),.p (Z1 v)] [.p (IS (stopV x v)),.p (.int .i64 0)]:=by
 refine Zf [] Tryz.func241 rfl ZbM ?_;simp (disch:=omega) only [Tryz.f241,go_sem,seval];have hv':=hv;rw [RB] at hv';have ct:=kM x.orders x.orders_c v.order ho;rw [hv'] at ct;refine ct.use ?_;simp only [Zy,Zp] at hv';obtain ⟨h1,h2⟩:=hv'
 have hi:v.order.toNat<x.orders.length:=Za
 refine Zc ?_;refine cD ?_ ?_<;>intro hd<;>simp (disch:=omega) only [Sh.out hd,go_sem,seval,↓reduceIte]
 ·have e:stopV x v=(nth x.orders v.order.toNat).drp:=by simp [stopV,hd]
  rw [e] at hp ⊢
  have e3: ¬(nth x.orders v.order.toNat).drp.place<0:=Za
  simp (disch:=omega) only [e3,go_sem,seval];exact we
 ·have e:stopV x v=(nth x.orders v.order.toNat).pick:=by simp [stopV,hd]
  rw [e] at hp ⊢
  have e3: ¬(nth x.orders v.order.toNat).pick.place<0:=Za
  simp (disch:=omega) only [e3,go_sem,seval];exact we
theorem rR (l:List Typ) (c:Bool) (ht:l.length<=1048576):PC 291 [.p (.list c (l.map WW))] (.int .i64 (dimsOf l)):=by
 refine Zd Tryz.func291 rfl Zcj ?_;simp (disch:=omega) only [Tryz.f291,go_sem,seval];refine cD ?_ ?_<;>intro h1<;>simp (disch:=omega) only [Sh.out h1,go_sem,seval,↓reduceIte]
 ·grind [dimsOf]
 simp_all [dimsOf]
theorem rT (a b:List Int) (c d:Bool) (ha:a.length<=1048576) (hb:b.length<=1048576):PC 268 [.p (.list c (a.map eI)),.p (.list d (b.map eI))] (.bool (U9 a b)):=by
 refine Zd Tryz.func268 rfl Zb2 ?_;simp (disch:=omega) only [Tryz.f268,go_sem,seval];refine cD ?_ ?_<;>intro h1<;>simp (disch:=omega) only [Sh.out h1,go_sem,seval]
 ·grind [U9]
 ·have h1':a.length=b.length:=Za
  refine Zk [1,12,13] (fun k:Nat=> [(14,.p (.int .i64 k))]) (fun _=> []) (fun k=>k<=a.length/\ ∀j,j<k->nth a j<=nth b j) (fun k=>a.length-k) 0 Zb (Weak.mk ?_) ?_
  ·simp (disch:=omega) only [go_sem,seval]
  ·rintro k ⟨hk,hno⟩;refine Zc ?_;refine cD ?_ ?_<;>intro h2<;>simp (disch:=omega) only [Sh.out h2,go_sem,seval,↓reduceIte]
   ·have hk2:k<a.length:=Za
    refine ZI ?_ ?_<;>intro h3
    ·grind [U9]
    ·exact ⟨k+1,⟨Za,Zm.2 ⟨hno,Za⟩⟩,Za,wk⟩
   ·have hkl:k=a.length:=Za
    simp_all [U9]
theorem rO (t:Typ) (s:Int) (h1:t.skills<9223372036854775808) (h2:s<9223372036854775808):PC 264 [.p (WW t),.p (.int .i64 s)] (.bool (WK t s)):=by
 refine Zd Tryz.func264 rfl ZbY ?_;simp (disch:=omega) only [Tryz.f264,go_sem,seval];refine gT ?_ ?_<;>intro c1<;>simp (disch:=omega) only [Sh.out c1,go_sem,seval,↓reduceIte]
 ·refine gT ?_ ?_<;>intro c2<;>simp (disch:=omega) only [Sh.out c2,go_sem,seval,↓reduceIte]
  ·obtain ⟨M,hM⟩: ∃M:Nat,t.skills=(M:Int):=⟨t.skills.toNat,Za⟩;obtain ⟨S,rfl⟩: ∃S:Nat,s=(S:Int):=⟨s.toNat,Za⟩;have hb:=DF (S:=S) (M:=M) Za
   have e:WK t (S:Int)=(List.range 63).all fun i=> !S.testBit i||M.testBit i:=by
    simp_all [WK]
   have hd:decide (IntKind.i64.wrap ((BitVec.ofInt 64 (S:Int)&&& ~~~BitVec.ofInt 64 (M:Int)).toNat:Int)=0)=((List.range 63).all fun i=> !S.testBit i||M.testBit i):=by
    grind
   rw [e,hM];exact Z5 (fun b=>V.p (PV.bool b)) hd
  grind [WK]
 grind [WK]
theorem Zdn (a b:Int) (h: -1073741824<=a/\a<=1073741824/\ -1073741824<=b/\b<=1073741824):PC 310 [.p (.int .i64 a),.p (.int .i64 b)] (.int .i64 (a+b)):=by
 refine Zd Tryz.func310 rfl ZcA ?_;simp (disch:=omega) only [Tryz.f310,go_sem,seval]
theorem qZ (a b:Int) (h: -1073741824<=a/\a<=1073741824/\ -1073741824<=b/\b<=1073741824):PC 311 [.p (.int .i64 a),.p (.int .i64 b)] (.int .i64 (a-b)):=by
 refine Zd Tryz.func311 rfl ZcB ?_;simp (disch:=omega) only [Tryz.f311,go_sem,seval]
def bW (f:Nat->Int) (n k:Nat):List Int:=(List.range n).map fun j=>if j<k then f j else 0
theorem rA {f:Nat->Int} {n k:Nat} :(bW f n k).length=n:=by simp [bW]
theorem iZ {f:Nat->Int} {n:Nat} :bW f n 0=List.replicate n 0:=by
 apply Qe (by simp [bW]);grind [bW]
theorem iY {f:Nat->Int} {n:Nat} :bW f n n=(List.range n).map f:=by
 simp_all [bW]
theorem rB {f:Nat->Int} {n k:Nat} (h:k<n):(bW f n k).set k (f k)=bW f n (k+1):=by
 apply Qe (by simp [bW]);grind [bW]
theorem Hb (a b:List Int) (c d:Bool) (g:FuncId) (f:Int->Int->Int) (hl:a.length=b.length) (ha:a.length<=1048576)
  (hf: ∀j,j<a.length->ACalls Tryz.prog g [.p (.int .i64 (nth a j)),.p (.int .i64 (nth b j))] [] fun x H'=>x= .p (.int .i64 (f (nth a j) (nth b j)))/\H'= []) :
  PT 309 [.p (.list c (a.map eI)),.p (.list d (b.map eI)),.fn (.func g) [] []] [.p (.list false (((List.range a.length).map fun j=>f (nth a j) (nth b j)).map eI)),.p (.int .i64 0)]:=by
 refine Zf [9] Tryz.func309 rfl Zcz ?_;simp (disch:=omega) only [Tryz.f309,go_sem,seval];refine cD ?_ ?_<;>intro h0<;>simp (disch:=omega) only [Sh.out h0,go_sem,seval]
 ·omega
 ·have hz:=iZ (f:=fun j=>f (nth a j) (nth b j)) (n:=a.length);have hml:=fun k=>rA (f:=fun j=>f (nth a j) (nth b j)) (n:=a.length) (k:=k);refine ZO [9] [0,1,2,8,19] (fun k:Nat=> [(20,.p (.int .i64 k))]) (fun k=> [.elems 1 ((bW (fun j=>f (nth a j) (nth b j)) a.length k).map eI)]) (fun k=>k<=a.length) (fun k=>a.length-k) 0 Zb (Weak.mk ?_) ?_
  ·simp (disch:=omega) only [hz,go_sem,seval];rw [List.map_replicate];rfl
  ·intro k hk;refine Zc ?_;refine cD ?_ ?_<;>intro h1<;>simp (disch:=omega) only [Sh.out h1,go_sem,seval,↓reduceIte]
   ·have hk2:k<a.length:=Za
    have hs:=rB (f:=fun j=>f (nth a j) (nth b j)) (n:=a.length) hk2;have hk3:=hml k;refine ZV 12 mixed Ze Ze ?_;refine Zc ?_;refine Zr (hf k hk2) ?_;refine Zc ?_;simp (disch:=first | omega | (simp only [Zw,Zz,ZG,ZK,ZQ,Z4]<;>omega)) only [go_sem,seval,↓reduceIte];refine ⟨k+1,Za,Za,Weak.mk ?_⟩;simp (disch:=omega) only [<- hs,go_sem,seval];rw [Vc];rfl
   ·have hkl:k=a.length:=Za
    subst hkl;rw [<- iY];have hk3:=hml a.length;refine Zq (Weak.fz (o:=0) (by rfl)) ?_;refine Zg [] _ _ _ _ ?_;simp (disch:=omega) only [Zs,Zn,Xe,go_sem,seval];rw [if_pos hk3];exact we
theorem kE (a b:List Int) (c d:Bool) (hl:a.length=b.length) (ha:a.length<=1048576) (h: ∀j,j<a.length-> -1073741824<=nth a j/\nth a j<=1073741824/\ -1073741824<=nth b j/\nth b j<=1073741824):PT 292 [.p (.list c (a.map eI)),.p (.list d (b.map eI))] [.p (.list false ((EF a b).map eI)),.p (.int .i64 0)]:=by
 refine Zf [] Tryz.func292 rfl Zck ?_;simp (disch:=omega) only [Tryz.f292,go_sem,seval];refine Yd (Hb a b c d 310 (fun m n=>m+n) hl ha fun j hj=>Zdn _ _ (h j hj)) ?_;simp (disch:=omega) only [EF,go_sem,seval];exact we
theorem Zdk (a b:List Int) (c d:Bool) (hl:a.length=b.length) (ha:a.length<=1048576) (h: ∀j,j<a.length-> -1073741824<=nth a j/\nth a j<=1073741824/\ -1073741824<=nth b j/\nth b j<=1073741824):PT 293 [.p (.list c (a.map eI)),.p (.list d (b.map eI))] [.p (.list false ((tC a b).map eI)),.p (.int .i64 0)]:=by
 refine Zf [] Tryz.func293 rfl Zcl ?_;simp (disch:=omega) only [Tryz.f293,go_sem,seval];refine Yd (Hb a b c d 311 (fun m n=>m-n) hl ha fun j hj=>qZ _ _ (h j hj)) ?_;simp (disch:=omega) only [tC,go_sem,seval];exact we
theorem kI (x:Inst) (r:Rte) (ht:0<=r.typ/\r.typ<(x.types.length:Int)) (hv: ∀v∈r.visits,RB x v=true) (hl:r.visits.length<=1048576) (hxl:x.types.length<=1048576) (hol:x.orders.length<=1048576)
  (hs:(ZN x r).skills<9223372036854775808) (ho: ∀o∈x.orders,o.skills<9223372036854775808) :
  PC 219 [.p (ZE x),.p (Z0 r)] (.int .i64 (if (r.visits.any fun v=> !WK (ZN x r) (nth x.orders v.order.toNat).skills)=true then 18 else 0)):=by
 refine Zd Tryz.func219 rfl Zbt ?_;simp (disch:=omega) only [Tryz.f219,go_sem,seval];refine Zk [2,3,8,9] (fun k:Nat=> [(10,.p (.int .i64 k))]) (fun _=> [Zh x,.cells [.p (.int .i64 r.typ),.p (.int .i64 r.start),.p (.list r.rests_c (r.rests.map eB)),.p (.list r.visits_c (r.visits.map Z1))]]) (fun k=>k<=r.visits.length/\ ∀j,j<k->WK (ZN x r) (nth x.orders (nth r.visits j).order.toNat).skills=true) (fun k=>r.visits.length-k) 0 Zb (Weak.mk ?_) ?_
 ·simp (disch:=omega) only [Zh,go_sem,seval]
 ·rintro k ⟨hk,hno⟩;refine VI ?_;refine cD ?_ ?_<;>intro h1<;>simp (disch:=omega) only [Sh.out h1,go_sem,seval,↓reduceIte]
  ·have hk2:k<r.visits.length:=Za
   have hin:=hv _ (ZF hk2);simp only [RB,Zy,Zp] at hin;obtain ⟨i1,i2⟩:=hin
   have hi:(nth r.visits k).order.toNat<x.orders.length:=Za
   have ho':=ho _ (ZF hi);refine Xr (Zc ?_);refine Zr (rO (ZN x r) (nth x.orders (nth r.visits k).order.toNat).skills Za Za) (Zc ?_);refine ZI ?_ ?_<;>intro h2
   ·have:(r.visits.any fun v=> !WK (ZN x r) (nth x.orders v.order.toNat).skills)=true:=by
     grind [ZF]
    grind
   ·exact ⟨k+1,⟨Za,Zm.2 ⟨hno,by grind⟩⟩,Za,wk⟩
  ·have: ¬(r.visits.any fun v=> !WK (ZN x r) (nth x.orders v.order.toNat).skills)=true:=by
    rw [YR];rintro ⟨v,hv,e⟩;obtain ⟨j,hj,rfl⟩:=ZU.1 hv
    grind [Zi]
   grind
def Si (x:Inst) (d:Nat) (ms:List Int) (k:Nat):List Int:=(ms.take k).foldl (fun s i=>if (nth x.orders i.toNat).pick.place<0 then EF s (nth x.orders i.toNat).load else s) (List.replicate d 0)
theorem NT {x:Inst} {d:Nat} {ms:List Int} {k:Nat} (h:k<ms.length):Si x d ms (k+1)=if (nth x.orders (nth ms k).toNat).pick.place<0 then EF (Si x d ms k) (nth x.orders (nth ms k).toNat).load else Si x d ms k:=by
 grind [Si,Xl,Zi]
theorem Sj {x:Inst} {d:Nat} {ms:List Int} (hms: ∀i∈ms,∀j,j<d->0<=nth (nth x.orders i.toNat).load j/\nth (nth x.orders i.toNat).load j<=1000): ∀k,k<=ms.length->(Si x d ms k).length=d/\ ∀j,j<d->0<=nth (Si x d ms k) j/\nth (Si x d ms k) j<=1000*k
 | 0,_=>by
  grind [Si,Zi]
 | k+1,h=>by
  obtain ⟨h1,h2⟩:=Sj hms k Za;rw [NT Za]
  split
  ·refine ⟨by simp [EF,h1],fun j hj=> ?_⟩;have a1:=h2 j hj;have a2:=hms _ (ZF (show k<ms.length by omega)) j hj;rw [EF,QW Za];omega
  ·exact ⟨h1,fun j hj=>by have:=h2 j hj;omega⟩
theorem tB (x:Inst) (S:Int) (d:Nat) (hd:d<=3) (hol:x.orders.length<=1048576) (hms: ∀i∈X1 S 63,0<=i/\i<(x.orders.length:Int)) (hml:(X1 S 63).length<=63)
  (hld: ∀o∈x.orders,o.load.length=d/\ ∀n∈o.load,0<=n/\n<=1000) :
  PC 290 [.p (ZE x),.p (.int .i64 S),.p (.int .i64 (d:Int))] (.list false ((Si x d (X1 S 63) (X1 S 63).length).map eI)):=by
 have hmo: ∀i∈X1 S 63,i.toNat<x.orders.length:=fun i hi=>by grind
 have hrg:=Sj (x:=x) (d:=d) (ms:=X1 S 63) fun i hi j hj=>by
  grind [ZF]
 refine Zd Tryz.func290 rfl Zci ?_;simp (disch:=omega) only [Tryz.f290,go_sem,seval];refine (HB S).useF (Zc ?_);refine Zq ((Weak.fz (o:=1) (by rfl)).trans (Weak.fz (o:=2) (by rfl))) ?_;simp (disch:=omega) only [Zs,Zn,XE,Xe,List.length_replicate,eq_self,go_sem,seval]
 have hz:List.replicate d (PV.int .i64 0)=(Si x d (X1 S 63) 0).map eI:=by
  show _=(List.replicate d 0).map eI
  rw [List.map_replicate];rfl
 refine Zk [3,13,14] (fun k:Nat=> [(7,.p (.list false ((Si x d (X1 S 63) k).map eI))),(15,.p (.int .i64 k))]) (fun _=> [Zh x,.dead,.dead]) (fun k=>k<=(X1 S 63).length) (fun k=>(X1 S 63).length-k) 0 Zb (Weak.mk ?_) ?_
 ·simp (disch:=omega) only [Zh,hz,go_sem,seval]
 ·intro k hk;have hk1:=hrg k hk;have hsn:=fun h=>NT (x:=x) (d:=d) (ms:=X1 S 63) (k:=k) h;refine VI ?_;refine cD ?_ ?_<;>intro h1<;>simp (disch:=omega) only [Sh.out h1,go_sem,seval,↓reduceIte]
  ·have hk2:k<(X1 S 63).length:=Za
   have hm:=hms _ (ZF hk2);have hi:=hmo _ (ZF hk2);have hlo:=hld _ (ZF hi);have hsn:=hsn hk2;refine Zc ?_;refine ZI ?_ ?_<;>intro h2
   ·rw [if_pos h2] at hsn;refine Yd (kE (Si x d (X1 S 63) k) (nth x.orders (nth (X1 S 63) k).toNat).load false (nth x.orders (nth (X1 S 63) k).toNat).load_c Za Za fun j hj=> ?_) ?_
    ·have b1:=hk1.2 j Za;have b2:=hlo.2 _ (ZF (show j<(nth x.orders (nth (X1 S 63) k).toNat).load.length by omega));omega
    ·refine Zc ?_;exact ⟨k+1,Za,Za,Weak.mk (by simp (disch:=omega) only [hsn,go_sem,seval])⟩
   ·rw [if_neg h2] at hsn;exact ⟨k+1,Za,Za,Weak.mk (by simp (disch:=omega) only [hsn,go_sem,seval])⟩
  grind
theorem OP {p:Nat->Bool} {n:Nat} (h: ∀i,n<=i->p i=false): ∀k,n<=k->(List.range k).filter p=(List.range n).filter p:=by
 intro k hk
 induction k with
 | zero=>grind
 | succ k ih =>
  grind [Yv]
theorem Zjq {x:Inst} {l:List Vis} (hi:Inr x l) (hn:x.orders.length<=10):X1 ((ordS l:Nat):Int) 63=((List.range x.orders.length).filter fun (i:Nat)=>hasO l (i:Int)).map fun (i:Nat)=>(i:Int):=by
 have key: ∀i:Nat,i<=62->sHas ((ordS l:Nat):Int) (i:Int)=hasO l (i:Int):=fun i h=>by
  rw [UX _ _ h,Yj,YS,Z6]
  constructor
  ·rintro ⟨v,hv,e⟩;exact ⟨v,hv,by have:=hi v hv;omega⟩
  grind
 unfold X1;rw [Jw (q:=fun (i:Nat)=>hasO l (i:Int)) (fun i hm=>key i (by grind)),OP (n:=x.orders.length) (fun i h=> ?_) 63 Za]
 cases hh:hasO l (i:Int) with
 | false=>rfl
 | true =>
  obtain ⟨v,hv,e⟩:=Z6.1 hh;have:=hi v hv;omega
theorem gI {x:Inst} {d:Nat} : ∀(L:List Nat) (g:Nat->Int),(L.map fun (i:Nat)=>(i:Int)).foldl (fun s (i:Int)=>if (nth x.orders i.toNat).pick.place<0 then EF s (nth x.orders i.toNat).load else s) ((List.range d).map g)=(List.range d).map fun j=>g j+(L.map fun i=>if (nth x.orders i).pick.place<0 then nth (nth x.orders i).load j else 0).sum
 | [],g=>Zb
 | i::L,g=>by
  rw [Zs,Vb,XO]
  by_cases h:(nth x.orders i).pick.place<0
  ·have e:EF ((List.range d).map g) (nth x.orders i).load=(List.range d).map fun j=>g j+nth (nth x.orders i).load j:=by
    grind [EF,YH,QW]
   rw [if_pos h,e,gI L]
   grind
  ·rw [if_neg h,gI L]
   grind
theorem aY {x:Inst} {l:List Vis} (hi:Inr x l) (hn:x.orders.length<=10):Si x (dimsOf x.types).toNat (X1 ((ordS l:Nat):Int) 63) (X1 ((ordS l:Nat):Int) 63).length=Wl x l 0:=by
 rw [Si,Xi,Zjq hi hn];have:=gI (x:=x) (d:=(dimsOf x.types).toNat) ((List.range x.orders.length).filter fun (i:Nat)=>hasO l (i:Int)) fun _=>0
 have e:(List.range (dimsOf x.types).toNat).map (fun _=>(0:Int))=List.replicate (dimsOf x.types).toNat 0:=by
  simp_all [List.map_const']
 rw [e] at this;rw [this,Wl];refine YH fun j _=> ?_;rw [Aw,JW,DY]
 congr 1
 refine YH fun i _=> ?_
 grind [jS]
theorem mE {x:Inst} {l:List Vis} {n j:Nat} {d:Nat} (hj:j<d) (hld: ∀o∈x.orders,o.load.length=d/\ ∀n∈o.load,0<=n/\n<=1000) (hn:x.orders.length<=10):0<=DY x l n j/\DY x l n j<=10000:=by
 have key:=Sl (f:=fun i=>if i<x.orders.length then (if (GF x l n i&&hasO l i)=true then nth (nth x.orders i).load j else 0) else 0) (b:=1000) Za (fun q=>by
  grind [ZF]) x.orders.length
 have e:DY x l n j=((List.range x.orders.length).map fun i=>if i<x.orders.length then (if (GF x l n i&&hasO l i)=true then nth (nth x.orders i).load j else 0) else 0).sum:=by
  simp_all [DY,YH]
 omega
theorem cT {x:Inst} {l:List Vis} {n j:Nat} (hj:j<(dimsOf x.types).toNat) (hd:LdOk x):0<=nth (Wl x l n) j/\nth (Wl x l n) j<=10000:=by
 rw [Wl,QW hj];exact mE hj (fun o ho=>by obtain ⟨h1,h2⟩:=hd.load o ho;grind) hd.ord
def vY {α:Type} (f:α->Bool) (l:List α):Int:=match l.findIdx? f with | some i=>(i:Int) | none=> -1
theorem gN {α:Type} [Inhabited α] {f:α->Bool} {l:List α} {k:Nat} (hk:k<l.length) (h:f (nth l k)=true) (hno: ∀j,j<k->f (nth l j)=false):vY f l=(k:Int):=by
 have:l.findIdx? f=some k:=by
  grind [Qx,Zi]
 simp [vY,this]
theorem gP {α:Type} [Inhabited α] {f:α->Bool} {l:List α} (hno: ∀j,j<l.length->f (nth l j)=false):vY f l= -1:=by
 have:l.findIdx? f=none:=by
  rw [List.findIdx?_eq_none_iff];intro x hx;obtain ⟨j,hj,rfl⟩:=ZU.1 hx
  grind [Zi]
 simp [vY,this]
theorem gO {α:Type} {f:α->Bool} {l:List α} :decide (0<=vY f l)=l.any f:=by
 grind [vY]
theorem Tq (l:List (List Int)) (c:Bool) (g:FuncId) (caps:List V) (H:List AM.Obj) (f:List Int->Bool) (hl:l.length<=1048576) (hW:LG H H.length H H) (hc:Z9 H.length caps=true)
  (hg: ∀v∈l,ACalls Tryz.prog g (.p (nJ v)::caps) H fun x H'=>x= .p (.bool (f v))/\H'=H) :
  ACalls Tryz.prog 294 [.p (.list c (l.map nJ)),.fn (.func g) [] caps] H fun x H'=>x= .p (.int .i64 (vY f l))/\H'=H:=by
 refine Ye Tryz.func294 rfl Zcm (Zg [] _ _ _ _ ?_);simp (disch:=omega) only [Tryz.f294,go_sem,seval];refine Zk [0,1,7] (fun k:Nat=> [(8,.p (.int .i64 k))]) (fun _=>H) (fun k=>k<=l.length/\ ∀j,j<k->f (nth l j)=false) (fun k=>l.length-k) 0 Zb (Weak.mk ?_) ?_
 ·simp (disch:=omega) only [hW,hc,go_sem,seval];simp
 ·rintro k ⟨hk,hno⟩;refine Zc ?_;refine cD ?_ ?_<;>intro h<;>simp (disch:=omega) only [Sh.out h,go_sem,seval,↓reduceIte]
  ·have hk2:k<l.length:=Za
   have hgk:=hg (nth l k) (Zo hk2);simp (disch:=omega) only [zQ,go_sem,seval] at hgk;refine hgk.useH (Zc ?_);refine cD ?_ ?_<;>intro h2<;>simp (disch:=omega) only [Sh.out h2,go_sem,seval,↓reduceIte]
   ·grind [gN]
   ·have h3:f (nth l k)=false:=Za
    refine ⟨k+1,⟨Za,Zm.2 ⟨hno,h3⟩⟩,Za,Weak.mk ?_⟩;simp (disch:=omega) only [hW,hc,go_sem,seval];simp
  grind [gP]
theorem IN (l:List (List Int)) (c:Bool) (g:FuncId) (caps:List V) (H:List AM.Obj) (f:List Int->Bool) (hl:l.length<=1048576) (hW:LG H H.length H H) (hc:Z9 H.length caps=true)
  (hg: ∀v∈l,ACalls Tryz.prog g (.p (nJ v)::caps) H fun x H'=>x= .p (.bool (f v))/\H'=H) :
  ACalls Tryz.prog 266 [.p (.list c (l.map nJ)),.fn (.func g) [] caps] H fun x H'=>x= .p (.bool (l.any f))/\H'=H:=by
 refine Ye Tryz.func266 rfl Zb0 (Zg [] _ _ _ _ ?_);simp (disch:=omega) only [Tryz.f266,go_sem,seval];refine (Tq l c g caps H f hl hW hc hg).useH (Zc ?_);rw [gO]
theorem kK (x:Inst) (r:Rte) (hx:InstOk x) (hl:r.visits.length<=1048576):PC 218 [.p (ZE x),.p (Z0 r)] (.int .i64 (Xw x r.visits)):=by
 have hf:=YO hx;obtain ⟨h1,h2⟩:=Qy.1 hx.rules
 have ha:x.apart.length<=1048576:=by
  have h3:=(Qy.1 h1).1
  grind [Oa]
 have hb:x.before.length<=1048576:=by
  have h3:=(Qy.1 h2).1
  grind [Oa]
 exact PA x r (by have:=hf.len;omega) hl ha hb
theorem R5 {x:Inst} {l:List Vis} (hi:Inr x l) (hn:x.orders.length<=10):ordR l=(((ordS l:Nat):Int),0):=by
 rw [ordR,if_pos];rw [Zt];intro v hv;have:=hi v hv;simp [DI];omega
theorem ZpT {α:Type} (f:Nat->α) (n:Nat):(List.range n).map f++ [f n]=(List.range (n+1)).map f:=by grind [Yv]
theorem kH (x:Inst) (r:Rte) (hx:InstOk x) (hl:r.visits.length<=1048576) (h0:Xw x r.visits=0) :
  PT 265 [.p (ZE x),.p (Z0 r)] [.p (.list false ((Qg x r.visits).map nJ)),.p (.int .i64 0)]:=by
 have hd:=Qb hx;have hsq:=W4 h0;have hol:=hd.ord;have hso:=Vl r hl;rw [R5 hsq.inr hol] at hso
 have hD:dimsOf x.types=((dimsOf x.types).toNat:Int):=by have:=hd.dim;omega
 have cd:=rR x.types x.types_c hd.typ;rw [hD] at cd;have hst:=aY hsq.inr hol
 have hmem: ∀i∈X1 ((ordS r.visits:Nat):Int) 63,0<=i/\i<(x.orders.length:Int):=fun i hi=>by
  rw [Zjq hsq.inr hol] at hi
  grind
 have cs:=tB x ((ordS r.visits:Nat):Int) (dimsOf x.types).toNat (by have:=hd.dim;omega) Za hmem (Ft _ _) (fun o ho=>by have:=hd.load o ho;grind);rw [hst] at cs;refine Zf [20] Tryz.func265 rfl ZbZ ?_;simp (disch:=omega) only [Tryz.f265,go_sem,seval];refine (kK x r hx hl).use (Zc ?_);simp (disch:=omega) only [h0,go_sem,seval];refine Yd hso (Zc ?_);refine Xr (Zc ?_);refine Zr (cd) (Zc ?_);refine Zr (cs) (Zc ?_);refine ZO [20] [2,37,38] (fun q:Nat×List (List Int)=> [(9,.p (.list false ((Wl x r.visits q.1).map eI))),(10,.sl 2 0 q.2.length q.2.length),(39,.p (.int .i64 q.1))]) (fun q=> [Zh x,ZA r,.elems 1 (q.2.map nJ)]) (fun q=>q.1<=r.visits.length/\q.2=(List.range (q.1+1)).map (Wl x r.visits)) (fun q=>r.visits.length-q.1) (0,[Wl x r.visits 0]) Zb (Weak.mk ?_) ?_
 ·simp (disch:=omega) only [Zh,ZA,Zn,Zs,Zz,Zw,go_sem,seval]
 ·rintro ⟨k,o⟩ ⟨hk,ho⟩;simp only at hk ho
  have hol2:o.length=k+1:=by rw [ho];simp
  refine J8 ?_;refine cD ?_ ?_<;>intro h1<;>simp (disch:=omega) only [Sh.out h1,go_sem,seval,↓reduceIte]
  ·have hk2:k<r.visits.length:=Za
   obtain ⟨v1,v2⟩:=hsq.inr _ (Zo hk2)
   have hi:(nth r.visits k).order.toNat<x.orders.length:=Za
   obtain ⟨l1,l2⟩:=hd.load _ (ZF hi);have hsu:=SB hsq hk2;have hal:=EG (x:=x) (l:=r.visits) (n:=k);have hdm:=hd.dim
   have hrg: ∀j,j<(Wl x r.visits k).length-> -1073741824<=nth (Wl x r.visits k) j/\nth (Wl x r.visits k) j<=1073741824/\ -1073741824<=nth (nth x.orders (nth r.visits k).order.toNat).load j/\nth (nth x.orders (nth r.visits k).order.toNat).load j<=1073741824:=fun j hj=>by
    have b1:=cT (x:=x) (l:=r.visits) (n:=k) (j:=j) Za hd
    grind [ZF]
   refine cD ?_ ?_<;>intro h2<;>simp (disch:=omega) only [Sh.out h2,go_sem,seval,↓reduceIte]
   ·rw [if_pos h2] at hsu;refine Yd (Zdk (Wl x r.visits k) (nth x.orders (nth r.visits k).order.toNat).load false (nth x.orders (nth r.visits k).order.toNat).load_c Za Za hrg) (Zc ?_);exact ⟨(k+1,o++ [Wl x r.visits (k+1)]),⟨Za,by grind⟩,Za,Weak.mk (by simp (disch:=omega) only [hsu,ZG,Zw,Zz,XA,Zs,Zn,go_sem,seval])⟩
   ·rw [if_neg (by rw [h2];simp)] at hsu;refine Yd (kE (Wl x r.visits k) (nth x.orders (nth r.visits k).order.toNat).load false (nth x.orders (nth r.visits k).order.toNat).load_c Za Za hrg) (Zc ?_);exact ⟨(k+1,o++ [Wl x r.visits (k+1)]),⟨Za,by grind⟩,Za,Weak.mk (by simp (disch:=omega) only [hsu,ZG,Zw,Zz,XA,Zs,Zn,go_sem,seval])⟩
  ·have hkl:k=r.visits.length:=Za
   subst hkl;refine Zq (Weak.fz (o:=2) (by rfl)) (Zg [] _ _ _ _ (Vm ?_));rw [Qg,<- ho];exact we
theorem qG (x:Inst) (r:Rte) (a:List Int) (htl:x.types.length<=1048576) (hty:0<=r.typ/\r.typ<(x.types.length:Int)) (ha:a.length<=1048576) (hc:(ZN x r).cap.length<=1048576) :
  ACalls Tryz.prog 267 [.p (nJ a),.ptr 0 0,.ptr 1 0] [Zh x,ZA r] fun y H'=>y= .p (.bool (!U9 a (ZN x r).cap))/\H'= [Zh x,ZA r]:=by
 have hti:r.typ.toNat<x.types.length:=Za
 refine Zf [] Tryz.func267 rfl Zb1 ?_;simp (disch:=omega) only [Tryz.f267,Zh,ZA,go_sem,seval];refine (rT a (ZN x r).cap false (ZN x r).cap_c ha hc).use (Zc ?_);exact we
theorem kF (x:Inst) (r:Rte) (hx:InstOk x) (hl:r.visits.length<=1048576) (hty:0<=r.typ/\r.typ<(x.types.length:Int)) (h0:Xw x r.visits=0) :
  PC 220 [.p (ZE x),.p (Z0 r)] (.int .i64 (if UT x (ZN x r).cap r.visits=true then 0 else 17)):=by
 have hd:=Qb hx;have htl:=hd.typ
 have hti:r.typ.toNat<x.types.length:=Za
 have hcp:(ZN x r).cap.length<=1048576:=by
  have hcap:=hx.types.2 _ hti;unfold A3 at hcap;obtain ⟨⟨⟨⟨⟨⟨⟨⟨_,_⟩,_⟩,_⟩,hcap⟩,_⟩,_⟩,_⟩,_⟩:=hcap;simp only [UK,Zy,Zp,rng] at hcap;unfold ZN;omega
 have hll:(Qg x r.visits).length=r.visits.length+1:=by simp [Qg]
 have hvl:=(W4 h0).len hd.ord
 have X8:(Qg x r.visits).any (fun a=> !U9 a (ZN x r).cap)= !UT x (ZN x r).cap r.visits:=by
  grind [UT,Qg]
 have e1: ¬r.typ<0:=Za
 have e2: ¬(x.types.length:Int)<=r.typ:=Za
 refine Zd Tryz.func220 rfl Zbu ?_;simp (disch:=omega) only [Tryz.f220,e1,e2,go_sem,seval];refine Yd (kH x r hx hl h0) (Zc ?_);refine (IN (Qg x r.visits) false 267 [.ptr 0 0,.ptr 1 0] [Zh x,ZA r] (fun a=> !U9 a (ZN x r).cap) Za (by simp (disch:=omega) only [Zh,ZA,go_sem,seval]) (by rfl) (fun a ha=>qG x r a htl hty ?_ hcp)).useH ?_
 ·obtain ⟨j,_,rfl⟩:=Xv.1 ha;rw [EG];have:=hd.dim;omega
 ·refine J8 ?_;rw [X8];refine cD ?_ ?_<;>intro h1<;>simp (disch:=omega) only [Sh.out h1,go_sem,seval]
  ·grind
  grind
set_option maxRecDepth 60000
def DU (x:Inst) (o n:Nat):List V:= [.p (.list x.net.places_c (x.net.places.map eS)),.p (.list x.net.arcs_c (x.net.arcs.map WV)),.p (.list x.types_c (x.types.map WW)),.sl o 0 n n,.p (.list x.apart_c (x.apart.map eP)),.p (.list x.before_c (x.before.map eP))]
theorem K4 {P:Program} {e:TypeId} {k:Nat} {cs:List PV} {kk:IntKind} {n:Int} {x:PV} (h0:0<=n) (h1:n<k) (hx:apart P e cs n.toNat=some x) (ht:YU P e=some 1):LQ P (some (.array k e)) (.p (.agg cs)) (.p (.int kk n))=some (.p x):=by
 simp_all [LQ]
def ZhD (s:Sco):PV:= .agg [.int .i64 s.cost,.int .i64 s.moved,.int .i64 s.other,.int .i64 s.work]
@[go_sem] theorem Zls (s:Sco):ZhD s= .agg [.int .i64 s.cost,.int .i64 s.moved,.int .i64 s.other,.int .i64 s.work]:=Zl rfl rfl
theorem kL (s:Sco):PC 198 [.p (AQ s)] (ZhD s):=by
 refine Zf [] Tryz.func198 rfl Zbr ?_;simp (disch:=omega) only [Tryz.f198,go_sem,seval];exact we
def Yp (a b:Sco):Sco:=⟨a.cost+b.cost,a.moved+b.moved,a.other+b.other,a.work+b.work⟩
def Uk (B:Int) (s:Sco):Prop:=(-B<=s.cost/\s.cost<=B)/\(-B<=s.moved/\s.moved<=B)/\(-B<=s.other/\s.other<=B)/\(-B<=s.work/\s.work<=B)
def BE (s:Sco):AM.Obj:= .cells [.p (.int .i64 s.cost),.p (.int .i64 s.moved),.p (.int .i64 s.other),.p (.int .i64 s.work)]
def Xn (s:Sco):Int×Int:=if s.cost<0\/s.moved<0\/s.other<0\/s.work<0 then (0,2) else if 1073741824<s.cost\/16<=s.moved\/16<=s.other\/65536<=s.work then (0,4) else (((s.cost*16+s.moved)*16+s.other)*65536+s.work,0)
theorem HH (s:Sco) (hs:Uk 1152921504606846976 s):PT 152 [.p (AQ s)] [.p (.int .i64 (Xn s).1),.p (.int .i64 (Xn s).2)]:=by
 obtain ⟨a1,a2,a3,a4⟩:=hs;refine Zf [] Tryz.func152 rfl ZaV ?_;simp (disch:=omega) only [Tryz.f152,go_sem,seval];refine (kL s).use (Zc ?_);refine Zk [1,9] (fun k:Nat=> [(10,.p (.int .i64 k))]) (fun _=> [BE s,BE s]) (fun k=>k<=4/\(0<k->0<=s.cost)/\(1<k->0<=s.moved)/\(2<k->0<=s.other)/\(3<k->0<=s.work)) (fun k=>4-k) 0 ⟨Za,Za,Za,Za,Za⟩ (Weak.mk ?_) ?_
 ·simp (disch:=omega) only [BE,go_sem,seval]
 ·rintro k ⟨hk,k1,k2,k3,k4⟩;simp (disch:=omega) only [BE,go_sem,seval];refine cD ?_ ?_<;>intro h1<;>simp (disch:=omega) only [Sh.out h1,go_sem,seval,↓reduceIte]
  ·have:k=0\/k=1\/k=2\/k=3:=Za
   rcases this with rfl | rfl | rfl | rfl
   ·rw [K4 (x:= .int .i64 s.cost) Za Za (by rfl) Ze];refine Zc ?_;refine ZI ?_ ?_<;>intro h2
    ·have e:Xn s=(0,2):=by simp_all [Xn]
     rw [e];exact we
    ·exact ⟨1,⟨Za,fun _=>Za,Za,Za,Za⟩,Za,wk⟩
   ·rw [K4 (x:= .int .i64 s.moved) Za Za (by rfl) Ze];refine Zc ?_;refine ZI ?_ ?_<;>intro h2
    ·have e:Xn s=(0,2):=by simp_all [Xn]
     rw [e];exact we
    ·exact ⟨2,⟨Za,fun _=>k1 Za,fun _=>Za,Za,Za⟩,Za,wk⟩
   ·rw [K4 (x:= .int .i64 s.other) Za Za (by rfl) Ze];refine Zc ?_;refine ZI ?_ ?_<;>intro h2
    ·have e:Xn s=(0,2):=by simp_all [Xn]
     rw [e];exact we
    ·exact ⟨3,⟨Za,fun _=>k1 Za,fun _=>k2 Za,fun _=>Za,Za⟩,Za,wk⟩
   ·rw [K4 (x:= .int .i64 s.work) Za Za (by rfl) Ze];refine Zc ?_;refine ZI ?_ ?_<;>intro h2
    ·have e:Xn s=(0,2):=by simp_all [Xn]
     rw [e];exact we
    ·exact ⟨4,⟨Za,fun _=>k1 Za,fun _=>k2 Za,fun _=>k3 Za,fun _=>Za⟩,Za,wk⟩
  ·have hk4:k=4:=Za
   subst hk4;have g1:=k1 Za;have g2:=k2 Za;have g3:=k3 Za;have g4:=k4 Za
   have n1: ¬(s.cost<0\/s.moved<0\/s.other<0\/s.work<0):=Za
   have bad:(1073741824<s.cost\/16<=s.moved\/16<=s.other\/65536<=s.work)->Xn s=(0,4):=fun h=>by simp_all [Xn]
   refine gF ?_ ?_<;>intro h2<;>simp (disch:=omega) only [Sh.out h2,go_sem,seval,↓reduceIte]
   ·rw [bad Za];exact we
   ·refine gF ?_ ?_<;>intro h3<;>simp (disch:=omega) only [Sh.out h3,go_sem,seval,↓reduceIte]
    ·rw [bad Za];exact we
    ·refine gF ?_ ?_<;>intro h4<;>simp (disch:=omega) only [Sh.out h4,go_sem,seval,↓reduceIte]
     ·rw [bad Za];exact we
     ·refine cD ?_ ?_<;>intro h5<;>simp (disch:=omega) only [Sh.out h5,go_sem,seval,↓reduceIte]
      ·rw [bad Za];exact we
      ·have e:Xn s=(((s.cost*16+s.moved)*16+s.other)*65536+s.work,0):=by simp_all [Xn,if_neg]
       rw [e];exact we
def XQ (x:Inst) (i:Int):Sco×Int :=
 if i<0\/(x.orders.length:Int)<=i then (zSco,2)
 else if (nth x.orders i.toNat).off=true then (zSco,9)
 else if (nth x.orders i.toNat).penalty= -1 then (zSco,23)
 else (⟨(nth x.orders i.toNat).penalty,if (nth x.orders i.toNat).now= -1 then 0 else 1,0,0⟩,0)
theorem Nq (x:Inst) (i:Int) (ho:x.orders.length<=1048576):PT 151 [.p (ZE x),.p (.int .i64 i)] [.p (AQ (XQ x i).1),.p (.int .i64 (XQ x i).2)]:=by
 refine Zf [] Tryz.func151 rfl ZaU ?_;simp (disch:=omega) only [Tryz.f151,go_sem,seval];refine gF ?_ ?_<;>intro h1<;>simp (disch:=omega) only [Sh.out h1,go_sem,seval,↓reduceIte]
 ·have e:XQ x i=(zSco,2):=by simp_all [XQ]
  rw [e];exact we (by simp (disch:=omega) only [zSco,go_sem,seval])
 ·refine cD ?_ ?_<;>intro h2<;>simp (disch:=omega) only [Sh.out h2,go_sem,seval,↓reduceIte]
  ·have e:XQ x i=(zSco,2):=by simp_all [XQ]
   rw [e];exact we (by simp (disch:=omega) only [zSco,go_sem,seval])
  ·have hi:i.toNat<x.orders.length:=Za
   have n1: ¬(i<0\/(x.orders.length:Int)<=i):=Za
   refine cD ?_ ?_<;>intro h3<;>simp (disch:=omega) only [Sh.out h3,go_sem,seval,↓reduceIte]
   ·have e:XQ x i=(zSco,9):=by simp_all [XQ]
    rw [e];exact we (by simp (disch:=omega) only [zSco,go_sem,seval])
   ·have h3': ¬(nth x.orders i.toNat).off=true:=by rw [h3];simp
    refine cD ?_ ?_<;>intro h4<;>simp (disch:=omega) only [Sh.out h4,go_sem,seval,↓reduceIte]
    ·have e:XQ x i=(zSco,23):=by simp_all [XQ]
     rw [e];exact we (by simp (disch:=omega) only [zSco,go_sem,seval])
    ·refine cD ?_ ?_<;>intro h5<;>simp (disch:=omega) only [Sh.out h5,go_sem,seval,↓reduceIte]
     ·have e:XQ x i=(⟨(nth x.orders i.toNat).penalty,1,0,0⟩,0):=by simp_all [XQ]
      rw [e];exact we
     ·have h5':(nth x.orders i.toNat).now= -1:=Za
      have e:XQ x i=(⟨(nth x.orders i.toNat).penalty,0,0,0⟩,0):=by simp_all [XQ]
      rw [e];exact we
theorem LA (x:Inst) (i:Int) (ho:x.orders.length<=1048576):PT 50 [.p (ZE x),.p (.int .i64 i)] [.p (AQ (XQ x i).1),.p (.int .i64 (XQ x i).2)]:=by
 refine Zf [] Tryz.func50 rfl ZiF ?_;simp (disch:=omega) only [Tryz.f50,go_sem,seval];refine gF ?_ ?_<;>intro h1<;>simp (disch:=omega) only [Sh.out h1,go_sem,seval,↓reduceIte]
 ·have e:XQ x i=(zSco,2):=by simp_all [XQ]
  rw [e];exact we (by simp (disch:=omega) only [zSco,go_sem,seval])
 ·refine cD ?_ ?_<;>intro h2<;>simp (disch:=omega) only [Sh.out h2,go_sem,seval,↓reduceIte]
  ·have e:XQ x i=(zSco,2):=by simp_all [XQ]
   rw [e];exact we (by simp (disch:=omega) only [zSco,go_sem,seval])
  ·have hi:i.toNat<x.orders.length:=Za
   have n1: ¬(i<0\/(x.orders.length:Int)<=i):=Za
   refine cD ?_ ?_<;>intro h3<;>simp (disch:=omega) only [Sh.out h3,go_sem,seval,↓reduceIte]
   ·have e:XQ x i=(zSco,9):=by simp_all [XQ]
    rw [e];exact we (by simp (disch:=omega) only [zSco,go_sem,seval])
   ·have h3': ¬(nth x.orders i.toNat).off=true:=by rw [h3];simp
    refine cD ?_ ?_<;>intro h4<;>simp (disch:=omega) only [Sh.out h4,go_sem,seval,↓reduceIte]
    ·have e:XQ x i=(zSco,23):=by simp_all [XQ]
     rw [e];exact we (by simp (disch:=omega) only [zSco,go_sem,seval])
    ·refine cD ?_ ?_<;>intro h5<;>simp (disch:=omega) only [Sh.out h5,go_sem,seval,↓reduceIte]
     ·have e:XQ x i=(⟨(nth x.orders i.toNat).penalty,1,0,0⟩,0):=by simp_all [XQ]
      rw [e];exact we
     ·have h5':(nth x.orders i.toNat).now= -1:=Za
      have e:XQ x i=(⟨(nth x.orders i.toNat).penalty,0,0,0⟩,0):=by simp_all [XQ]
      rw [e];exact we
theorem Ih (a b:Sco) (ha:Uk 1152921504606846976 a) (hb:Uk 1152921504606846976 b):PC 49 [.p (AQ a),.p (AQ b)] (AQ (Yp a b)):=by
 obtain ⟨a1,a2,a3,a4⟩:=ha;obtain ⟨b1,b2,b3,b4⟩:=hb;refine Zf [] Tryz.func49 rfl ZiE ?_;simp (disch:=omega) only [Tryz.f49,go_sem,seval];exact we (by simp (disch:=omega) only [Yp,go_sem,seval])
def VU (s:Sco):Bool:=decide (0<=s.cost)&&decide (s.cost<=1073741824)&&decide (0<=s.moved)&&decide (s.moved<=15)&&decide (0<=s.other)&&decide (s.other<=15)&&decide (0<=s.work)&&decide (s.work<=65535)
theorem aG (s:Sco):PC 123 [.p (AQ s)] (.bool (VU s)):=by
 refine Zd Tryz.func123 rfl Zaw ?_;simp (disch:=omega) only [Tryz.f123,go_sem,seval];refine gT ?_ ?_<;>intro h1<;>simp (disch:=omega) only [Sh.out h1,go_sem,seval,↓reduceIte]
 ·refine gT ?_ ?_<;>intro h2<;>simp (disch:=omega) only [Sh.out h2,go_sem,seval,↓reduceIte]
  ·refine gT ?_ ?_<;>intro h3<;>simp (disch:=omega) only [Sh.out h3,go_sem,seval,↓reduceIte]
   ·refine gT ?_ ?_<;>intro h4<;>simp (disch:=omega) only [Sh.out h4,go_sem,seval,↓reduceIte]
    ·refine gT ?_ ?_<;>intro h5<;>simp (disch:=omega) only [Sh.out h5,go_sem,seval,↓reduceIte]
     ·refine gT ?_ ?_<;>intro h6<;>simp (disch:=omega) only [Sh.out h6,go_sem,seval,↓reduceIte]
      ·refine gT ?_ ?_<;>intro h7<;>simp (disch:=omega) only [Sh.out h7,go_sem,seval,↓reduceIte]
       ·grind [VU]
       grind [VU]
      grind [VU]
     grind [VU]
    grind [VU]
   grind [VU]
  grind [VU]
 ·simp [VU,h1]
theorem PK (s:Sco) (hs:Uk 1152921504606846976 s):PT 74 [.p (AQ s)] [.p (.int .i64 (Xn s).1),.p (.int .i64 (Xn s).2)]:=by
 obtain ⟨a1,a2,a3,a4⟩:=hs
 have bad:(s.cost<0\/s.moved<0\/s.other<0\/s.work<0)->Xn s=(0,2):=fun h=>by rw [Xn,if_pos h]
 refine Zf [] Tryz.func74 rfl ZiY ?_;simp (disch:=omega) only [Tryz.f74,go_sem,seval];refine gF ?_ ?_<;>intro h1<;>simp (disch:=omega) only [Sh.out h1,go_sem,seval,↓reduceIte]
 ·rw [bad Za];exact we
 ·refine gF ?_ ?_<;>intro h2<;>simp (disch:=omega) only [Sh.out h2,go_sem,seval,↓reduceIte]
  ·rw [bad Za];exact we
  ·refine gF ?_ ?_<;>intro h3<;>simp (disch:=omega) only [Sh.out h3,go_sem,seval,↓reduceIte]
   ·rw [bad Za];exact we
   ·refine cD ?_ ?_<;>intro h4<;>simp (disch:=omega) only [Sh.out h4,go_sem,seval,↓reduceIte]
    ·rw [bad Za];exact we
    ·have n1: ¬(s.cost<0\/s.moved<0\/s.other<0\/s.work<0):=Za
     refine (aG s).use (Zc ?_);refine cD ?_ ?_<;>intro h5<;>simp (disch:=omega) only [Sh.out h5,go_sem,seval,↓reduceIte]
     ·have e:Xn s=(0,4):=by
       have h6: ¬VU s=true:=by grind
       rw [Xn,if_neg n1,if_pos];refine Eb fun h7=>h6 ?_;simp [VU];omega
      rw [e];exact we
     ·have h6:VU s=true:=by grind
      simp [VU] at h6
      have e:Xn s=(((s.cost*16+s.moved)*16+s.other)*65536+s.work,0):=by rw [Xn,if_neg n1,if_neg Za]
      rw [e];refine Zc ?_;exact we
def Ve (s:Sco):Prop:=0<=s.cost/\0<=s.moved/\0<=s.other/\0<=s.work
theorem KI {a b:Sco} (ha:Ve a) (hb:Ve b):Ve (Yp a b):=by
 obtain ⟨a1,a2,a3,a4⟩:=ha;obtain ⟨b1,b2,b3,b4⟩:=hb;exact ⟨by show 0<=a.cost+b.cost;omega,by show 0<=a.moved+b.moved;omega,by show 0<=a.other+b.other;omega,by show 0<=a.work+b.work;omega⟩
theorem Q9 {s:Sco} (hs:Ve s):(Xn s).2=0↔s.cost<=1073741824/\s.moved<16/\s.other<16/\s.work<65536:=by
 obtain ⟨a1,a2,a3,a4⟩:=hs;unfold Xn
 grind
theorem N3 {s:Sco} (hs:Ve s) (h:(Xn s).2=0):(Xn s).1=((s.cost*16+s.moved)*16+s.other)*65536+s.work:=by
 have h:=(Q9 hs).1 h;obtain ⟨a1,a2,a3,a4⟩:=hs
 simp_all [Xn,if_neg]
theorem tR {a b:Sco} (ha:Ve a) (hb:Ve b) (h:(Xn (Yp a b)).2=0):(Xn a).2=0/\(Xn b).2=0/\(Xn (Yp a b)).1=(Xn a).1+(Xn b).1:=by
 have h1:=(Q9 (KI ha hb)).1 h;have hv:=N3 (KI ha hb) h;have hA:(Xn a).2=0:=(Q9 ha).2 (by simp only [Yp] at h1;obtain ⟨b1,b2,b3,b4⟩:=hb;omega)
 grind [Xn,Q9,Yp]
theorem Gl {α:Type} {f:α->Sco} : ∀(l:List α) (s:Sco),(∀a∈l,Ve (f a))->Ve s->(Xn (l.foldl (fun s a=>Yp s (f a)) s)).2=0 ->
  (Xn s).2=0/\(∀a∈l,(Xn (f a)).2=0)/\(Xn (l.foldl (fun s a=>Yp s (f a)) s)).1=(Xn s).1+(l.map fun a=>(Xn (f a)).1).sum
 | [],s,_,_,h=>⟨h,Zb,Zb⟩
 | a::l,s,hf,hs,h=>by
  rw [Vb] at h ⊢;have ha:=hf a Zb;obtain ⟨g1,g2,g3⟩:=Gl l (Yp s (f a)) (fun b hb=>hf b (YQ _ hb)) (KI hs ha) h;obtain ⟨k1,k2,k3⟩:=tR hs ha g1
  grind
theorem Gg {x:Inst} (hx:InstOk x) (i:Int):Uk 1073741824 (XQ x i).1:=by
 unfold XQ
 split
 ·simp [Uk,zSco]
 ·split
  ·simp [Uk,zSco]
  ·split
   ·simp [Uk,zSco]
   ·have ha:=(hx.orders.2 i.toNat Za).arg;simp only [argOk,rng,Zy,Zp] at ha
    grind [Uk]
theorem F0 {a b:Sco} {B C:Int} (ha:Uk B a) (hb:Uk C b):Uk (B+C) (Yp a b):=by
 grind [Uk,Yp]
theorem YT {a:Sco} {B C:Int} (h:B<=C) (ha:Uk B a):Uk C a:=by
 grind [Uk]
def My (x:Inst) (t:Typ) (r:Rte) (c:Bool) (sp:List Stp):PV:= .agg [.list x.net.places_c (x.net.places.map eS),.list x.net.arcs_c (x.net.arcs.map WV),.list x.types_c (x.types.map WW),.list x.orders_c (x.orders.map eOrd),.list x.apart_c (x.apart.map eP),.list x.before_c (x.before.map eP),.str t.name,.int .i64 t.count,.int .i64 t.src,.int .i64 t.dst,.list t.cap_c (t.cap.map eI),.int .i64 t.skills,.int .i64 t.prof,.int .i64 t.opn,.int .i64 t.cls,.int .i64 t.drive,.int .i64 t.rest,.int .i64 t.fixed,.int .i64 t.perMile,.int .i64 t.perTick,.int .i64 r.typ,.int .i64 r.start,.list r.rests_c (r.rests.map eB),.list r.visits_c (r.visits.map Z1),.list c (sp.map IS)]
@[go_sem] theorem ZlK (x:Inst) (t:Typ) (r:Rte) (c:Bool) (sp:List Stp):My x t r c sp= .agg [.list x.net.places_c (x.net.places.map eS),.list x.net.arcs_c (x.net.arcs.map WV),.list x.types_c (x.types.map WW),.list x.orders_c (x.orders.map eOrd),.list x.apart_c (x.apart.map eP),.list x.before_c (x.before.map eP),.str t.name,.int .i64 t.count,.int .i64 t.src,.int .i64 t.dst,.list t.cap_c (t.cap.map eI),.int .i64 t.skills,.int .i64 t.prof,.int .i64 t.opn,.int .i64 t.cls,.int .i64 t.drive,.int .i64 t.rest,.int .i64 t.fixed,.int .i64 t.perMile,.int .i64 t.perTick,.int .i64 r.typ,.int .i64 r.start,.list r.rests_c (r.rests.map eB),.list r.visits_c (r.visits.map Z1),.list c (sp.map IS)]:=Zl rfl rfl
def ZdI (x:Inst) (t:Typ) (r:Rte):List V:= [.p (.list x.net.places_c (x.net.places.map eS)),.p (.list x.net.arcs_c (x.net.arcs.map WV)),.p (.list x.types_c (x.types.map WW)),.p (.list x.orders_c (x.orders.map eOrd)),.p (.list x.apart_c (x.apart.map eP)),.p (.list x.before_c (x.before.map eP)),.p (.str t.name),.p (.int .i64 t.count),.p (.int .i64 t.src),.p (.int .i64 t.dst),.p (.list t.cap_c (t.cap.map eI)),.p (.int .i64 t.skills),.p (.int .i64 t.prof),.p (.int .i64 t.opn),.p (.int .i64 t.cls),.p (.int .i64 t.drive),.p (.int .i64 t.rest),.p (.int .i64 t.fixed),.p (.int .i64 t.perMile),.p (.int .i64 t.perTick),.p (.int .i64 r.typ),.p (.int .i64 r.start),.p (.list r.rests_c (r.rests.map eB)),.p (.list r.visits_c (r.visits.map Z1))]
def Y3 (x:Inst) (t:Typ) (r:Rte) (c:Bool) (sp:List Stp):AM.Obj:= .cells [.p (.list x.net.places_c (x.net.places.map eS)),.p (.list x.net.arcs_c (x.net.arcs.map WV)),.p (.list x.types_c (x.types.map WW)),.p (.list x.orders_c (x.orders.map eOrd)),.p (.list x.apart_c (x.apart.map eP)),.p (.list x.before_c (x.before.map eP)),.p (.str t.name),.p (.int .i64 t.count),.p (.int .i64 t.src),.p (.int .i64 t.dst),.p (.list t.cap_c (t.cap.map eI)),.p (.int .i64 t.skills),.p (.int .i64 t.prof),.p (.int .i64 t.opn),.p (.int .i64 t.cls),.p (.int .i64 t.drive),.p (.int .i64 t.rest),.p (.int .i64 t.fixed),.p (.int .i64 t.perMile),.p (.int .i64 t.perTick),.p (.int .i64 r.typ),.p (.int .i64 r.start),.p (.list r.rests_c (r.rests.map eB)),.p (.list r.visits_c (r.visits.map Z1)),.p (.list c (sp.map IS))]
def ZdR : AM.Obj:= .cells [.p (.list true []),.p (.list true []),.p (.list true []),.p (.list true []),.p (.list true []),.p (.list true []),.p (.str []),.p (.int .i64 0),.p (.int .i64 0),.p (.int .i64 0),.p (.list true []),.p (.int .i64 0),.p (.int .i64 0),.p (.int .i64 0),.p (.int .i64 0),.p (.int .i64 0),.p (.int .i64 0),.p (.int .i64 0),.p (.int .i64 0),.p (.int .i64 0),.p (.int .i64 0),.p (.int .i64 0),.p (.list true []),.p (.list true []),.p (.list true [])]
def Jm (L:Lab):PV:= .agg [.int .i64 L.ready,.int .i64 L.since,.bool L.she.rest,.int .i64 L.she.dep,.list L.she.times_c (L.she.times.map eTim),.int .i64 L.she.fin,.int .i64 L.she.miles]
@[go_sem] theorem ZlB (L:Lab):Jm L= .agg [.int .i64 L.ready,.int .i64 L.since,.bool L.she.rest,.int .i64 L.she.dep,.list L.she.times_c (L.she.times.map eTim),.int .i64 L.she.fin,.int .i64 L.she.miles]:=Zl rfl rfl
@[go_sem] theorem Zel (l:List Lab):EJ 7 (l.map Jm)=true:=BA (f:=Jm) (S:=7) (fun _=>rfl) l
def WO (L:Lab):AM.Obj:= .cells [.p (.int .i64 L.ready),.p (.int .i64 L.since),.p (.bool L.she.rest),.p (.int .i64 L.she.dep),.p (.list L.she.times_c (L.she.times.map eTim)),.p (.int .i64 L.she.fin),.p (.int .i64 L.she.miles)]
theorem eN (l:List Tim) (c:Bool) (hl:l.length<=1048576):ACalls Tryz.prog 312 [.p (.list c (l.map eTim))] [] fun x H'=>x= .sl 0 0 l.length l.length/\H'= [.elems 4 (l.map eTim)]:=by
 suffices hh:ACalls Tryz.prog 312 [.p (.list c (l.map eTim))] [] fun x H'=> ∃m:List Tim,m=l/\x= .sl 0 0 m.length m.length/\H'= [.elems 4 (m.map eTim)] by
  grind
 refine Zf [1] Tryz.func312 rfl ZcC ?_;simp (disch:=omega) only [Tryz.f312,go_sem,seval];refine Vs (Vs (oT 1 rfl rfl ?_));refine ⟨_,R3 (e:=178) rfl Tryz.underlying93 rfl (fun _=>rfl),?_⟩;rintro _ ⟨b,rfl,hb⟩;refine Zc ?_;refine Zg [] _ _ _ _ ?_
 cases b with
 | true =>
  have hn:l= []:=by simp_all
  subst hn;refine Zc ?_;exact ⟨_,_,Weak.ofNil 0 4 rfl Zb (wk),[],rfl,rfl,rfl⟩
 | false =>
  refine Zc ?_;refine Zg [] _ _ _ _ (Zc ?_);exact ⟨.sl 0 0 l.length l.length,[.elems 4 (l.map eTim)],wk,l,rfl,rfl,rfl⟩
theorem G2 (x:Inst) (t:Typ) (r:Rte) (c:Bool) (sp:List Stp):PC 270 [.p (My x t r c sp)] (Jm (Xk t r.start)):=by
 refine Zf [] Tryz.func270 rfl Zb3 ?_;simp (disch:=omega) only [Tryz.f270,go_sem,seval];exact we (by simp (disch:=omega) only [Xk,zShe,Zn,go_sem,seval])
theorem kY (x:Inst) (t:Typ) (r:Rte) (c:Bool) (sp:List Stp) (k:Nat) (hk:k<=sp.length) (hl:sp.length<=1048576):PC 313 [.p (My x t r c sp),.p (.int .i64 (k:Nat))] (.int .i64 (Ka t sp k)):=by
 refine Zd Tryz.func313 rfl ZcD ?_;simp (disch:=omega) only [Tryz.f313,go_sem,seval];refine cD ?_ ?_<;>intro h<;>simp (disch:=omega) only [Sh.out h,go_sem,seval,↓reduceIte]
 ·simp_all [Ka]
 simp_all [Ka]
theorem Zdm (x:Inst) (r:Rte) (hx:InstOk x) (hty:0<=r.typ/\r.typ<(x.types.length:Int)) (h0:Xw x r.visits=0) (hs:0<=r.start/\r.start<=4096) :
  PT 269 [.p (ZE x),.p (Z0 r)] [.p (My x (ZN x r) r false (Xp x r.visits)),.p (.bool true)]:=by
 have hd:=Qb hx;have hsq:=W4 h0;have hol:=hd.ord;have htl:=hd.typ;have hvl:=hsq.len hol
 have e1: ¬r.typ<0:=Za
 have e2: ¬(x.types.length:Int)<=r.typ:=Za
 have e3: ¬r.start<0:=Za
 have e4: ¬ 4096<r.start:=Za
 have e5: ¬ 20<(r.visits.length:Int):=Za
 refine Zf [12] Tryz.func269 rfl iD ?_;simp (disch:=omega) only [Tryz.f269,e1,e2,e3,e4,e5,go_sem,seval];refine XI [9] 10 mixed Ze Ze Ze Zb (Zc ?_);refine ZL 9 _ _ Ze (by refine Zc ?_;exact ⟨rfl,rfl⟩) (Yo ?_);refine Zc ?_
 refine ZO [12] [2,4,6,49,50] (fun q:Nat×List Stp=> [(51,.p (.int .i64 q.1))])
  (fun q=> [Zh x,ZA r,ZdR,.cells (ZdI x (ZN x r) r++ [.sl 4 0 q.2.length q.2.length]),.elems 4 (q.2.map IS)])
  (fun q=>q.1<=r.visits.length/\q.2=(Xp x r.visits).take q.1) (fun q=>r.visits.length-q.1) (0,[]) Zb ((Weak.nilC (o:=3) (j:=24) 4 rfl rfl Zb).trans (Weak.mk ?_)) ?_
 ·simp (disch:=omega) only [Zh,ZA,ZdR,ZdI,ZN,Zn,Zz,XE,Xe,ZW,ZM,go_sem,seval]
 ·rintro ⟨k,o⟩ ⟨hk,ho⟩;simp only at hk ho
  have hol2:o.length=k:=by grind [X4]
  simp (disch:=omega) only [Zh,ZA,ZdR,ZdI,go_sem,seval];refine cD ?_ ?_<;>intro h1<;>simp (disch:=omega) only [Sh.out h1,go_sem,seval,↓reduceIte]
  ·have hk2:k<r.visits.length:=Za
   have hvis:=hsq.vis (Zo hk2);simp only [K0,Zy,Zp] at hvis
   have hsn:o++ [stopV x (nth r.visits k)]=(Xp x r.visits).take (k+1):=by
    rw [ho,Xl (by grind [X4]),<- Zi,F7 hk2]
   have hnp: ¬(stopV x (nth r.visits k)).place<0:=Za
   refine Yd (rU x (nth r.visits k) Za hvis.1 hvis.2) ?_;simp (disch:=omega) only [hnp,go_sem,seval];exact ⟨(k+1,o++ [stopV x (nth r.visits k)]),⟨Za,hsn⟩,Za,Weak.mk (by simp (disch:=omega) only [ZG,Zw,Zz,XA,Zs,Zn,go_sem,seval])⟩
  ·have hkl:k=r.visits.length:=Za
   subst hkl
   have hso:o=Xp x r.visits:=by grind [X4]
   subst hso;refine Zq (Weak.fz (o:=4) (by rfl)) (Zg [] _ _ _ _ (Vm ?_));exact we
def NP (rd sn:Int) (m:She):AM.Obj:= .cells [.p (.int .i64 rd),.p (.int .i64 sn),.p (.bool m.rest),.p (.int .i64 m.dep),.sl 4 0 m.times.length m.times.length,.p (.int .i64 m.fin),.p (.int .i64 m.miles)]
theorem E2 {P:Program} {H:List AM.Obj} {f ars} {a b d:PV} {B:V->Prop} {t} (h:ACalls P f ars [] fun x H'=>x= .tup [.p a,.p b,.p d]/\H'= []) (k:B (.tup [.p a,.p b,.p d])) (ha:Z9 0 ars=true:=by rfl) :
  bT (fun y=>ACalls P f ars H (ZB (ZB (fun x H'=>x=y/\H'=H) ⟨⟩) ⟨⟩)) (ZB B t) :=
 ⟨.tup [.p a,.p b,.p d],(h.behind ha H).mono fun x H' hq=>by
  obtain ⟨y,H1,⟨rfl,rfl⟩,rfl,rfl⟩:=hq
  simp [shV,shVs,ZB],k⟩
theorem Zc8 (x:Inst) (t:Typ) (r:Rte) (c:Bool) (sp:List Stp) (hok:TrpOk x t sp) (k:Nat) (hk:k<=sp.length) (hs1:0<sp.length) (L:Lab) (hL:LabR k L) (hlen:L.she.times.length=k) (hclip:0<k->L.she.times_c=false) (b:Bool) :
  PT 295 [.p (My x t r c sp),.p (Jm L),.p (.int .i64 (k:Nat)),.p (.bool b)] [.p (Jm (XX x t sp k L b).1),.p (.int .i64 (XX x t sp k L b).2)]:=by
 have hd:=Kl hok hL b;have hsn:=F6 hL b;have hg:=IY hok hL b;have hmi:=hL.mil;have hrd:=hL.rdy;have hsnL:=hL.snc;have hsl:=hok.len;have hrst:=hok.rst;unfold XX;have hmm:= @Kv k (ZJ t L b) b L.she;have hmf:= @HA k (ZJ t L b) b L.she;have hml:= @AA k (ZJ t L b) b L.she;refine Zf [2,7,14,31] Tryz.func295 rfl Zcn ?_;simp (disch:=omega) only [Tryz.f295,go_sem,seval];refine Xr (Zc ?_);refine ZD [2,3,4,5,8] (fun _:Unit=> [(10,.p (.int .i64 (ZJ t L b))),(11,.p (.int .i64 (W0 L b)))]) (fun _=> [Y3 x t r c sp,WO L,WO WJ]) (fun _=>True) ?_ ?_
 ·refine Zc ?_;refine ZI ?_ ?_<;>intro h
  ·subst h;exact ⟨(),Weak.mk (by simp (disch:=omega) only [Y3,WO,WJ,zShe,ZJ,W0,Zn,go_sem,seval,↓reduceIte])⟩
  ·subst h;exact ⟨(),Weak.mk (by simp (disch:=omega) only [Y3,WO,WJ,zShe,ZJ,W0,Zn,go_sem,seval,↓reduceIte])⟩
 ·intro _ _;refine Zg [7,14,31] _ _ _ _ ?_;simp (disch:=omega) only [Y3,WO,WJ,zShe,Zn,go_sem,seval];refine (eN L.she.times L.she.times_c Za).useF (Zc ?_)
  generalize hM:XF k (ZJ t L b) b L.she=M at *
  refine ZD [2,4,8,10,11,12] (fun _:Unit=> []) (fun _=> [Y3 x t r c sp,WO L,WO WJ,NP 0 0 M,.elems 4 (M.times.map eTim)]) (fun _=>True) ?_ ?_
  ·refine Zc ?_;refine ZI ?_ ?_<;>intro h
   ·have hk0:k=0:=Za
    subst hk0
    have e:M= { L.she with rest:=b,dep:=ZJ t L b } :=by rw [<- hM,XF,if_pos rfl]
    rw [e];exact ⟨(),Weak.mk (by simp (disch:=omega) only [Y3,WO,WJ,zShe,NP,Zn,go_sem,seval])⟩
   ·have e1:((k:Int)-1).toNat=k-1:=Za
    have hk1:k-1<L.she.times.length:=Za
    have vZ:(L.she.times.map eTim).set (k-1) (PV.agg [.int .i64 (nth L.she.times (k-1)).arr,.int .i64 (nth L.she.times (k-1)).beg,.int .i64 (nth L.she.times (k-1)).dep,.bool b])=(L.she.times.set (k-1) { nth L.she.times (k-1) with rest:=b }).map eTim:=by
     rw [Vc];rfl
    have hn1:nth (L.she.times.set (k-1) { nth L.she.times (k-1) with rest:=b }) (k-1)= { nth L.she.times (k-1) with rest:=b } :=by
     grind [Zi]
    have hl1:(L.she.times.set (k-1) { nth L.she.times (k-1) with rest:=b }).length=L.she.times.length:=Zb
    have hMt:M.times=(L.she.times.set (k-1) { nth L.she.times (k-1) with rest:=b }).set (k-1) { nth (L.she.times.set (k-1) { nth L.she.times (k-1) with rest:=b }) (k-1) with dep:=ZJ t L b } :=by
     rw [hn1,List.set_set,<- hM,XF,if_neg Za];rfl
    have hM2:M.rest=L.she.rest/\M.dep=L.she.dep:=by rw [<- hM,XF,if_neg Za];simp
    simp (disch:=first | omega | (simp only [Zw,Zz,ZG,ZK,ZQ,Z4]<;>omega)) only [e1,go_sem,seval,↓reduceIte];rw [vZ]
    generalize L.she.times.set (k-1) { nth L.she.times (k-1) with rest:=b } =l1 at *
    simp (disch:=first | omega | (simp only [Zw,Zz,ZG,ZK,ZQ,Z4]<;>omega)) only [e1,hl1,eq_self,Vd,go_sem,seval];refine ⟨(),Weak.mk ?_⟩;simp (disch:=omega) only [Y3,WO,WJ,zShe,NP,Zn,hM2.1,hM2.2,hmm,hmf,hml,go_sem,seval];rw [hMt,Vc]
    rfl
  ·intro _ _;refine Zg [14,31] _ _ _ _ ?_;simp (disch:=omega) only [Y3,WO,WJ,zShe,NP,Zn,go_sem,seval];refine ZD [2,4,8,10,11,12,13] (fun _:Unit=> [(14,.p (.int .i64 (bX t sp k)))]) (fun _=> [Y3 x t r c sp,WO L,WO WJ,NP 0 0 M,.elems 4 (M.times.map eTim)]) (fun _=>True) ?_ ?_
   ·refine Zc ?_;refine ZI ?_ ?_<;>intro h
    ·have e:bX t sp k=(nth sp k).place:=by rw [bX,if_neg Za]
     exact ⟨(),Weak.mk (by simp (disch:=omega) only [Y3,WO,WJ,zShe,NP,Zn,e,go_sem,seval])⟩
    ·have e:bX t sp k=t.dst:=by rw [bX,if_pos Za]
     exact ⟨(),Weak.mk (by simp (disch:=omega) only [Y3,WO,WJ,zShe,NP,Zn,e,go_sem,seval])⟩
   ·intro _ _;refine Zg [31] _ _ _ _ ?_;simp (disch:=omega) only [Y3,WO,WJ,zShe,NP,Zn,go_sem,seval];refine Xr (Zc ?_);refine Zr (kY x t r c sp k hk Za) (Zc ?_);refine E2 (ZjK x.net t.prof (Ka t sp k) (bX t sp k) (ZJ t L b) hok.net Za) (Zc ?_);have hG:Ug x.net t.prof (Ka t sp k) (bX t sp k) (ZJ t L b)=YY x t sp k (ZJ t L b):=rfl;rw [hG];clear hG
    generalize YY x t sp k (ZJ t L b)=g at *
    generalize ZJ t L b=d at *
    generalize W0 L b=s at *
    refine cD ?_ ?_<;>intro h1<;>simp (disch:=omega) only [Sh.out h1,go_sem,seval,↓reduceIte]
    ·have e:Wm t sp k g d s M=(WJ,12):=by rw [Wm,if_pos h1]
     rw [e];exact we (by simp (disch:=omega) only [WJ,zShe,Zn,go_sem,seval])
    ·refine cD ?_ ?_<;>intro h2<;>simp (disch:=omega) only [Sh.out h2,go_sem,seval,↓reduceIte]
     ·refine cD ?_ ?_<;>intro h3<;>simp (disch:=omega) only [Sh.out h3,go_sem,seval,↓reduceIte]
      ·have e:Wm t sp k g d s M=(WJ,15):=by rw [Wm,if_neg h1,if_pos Za,if_pos h3]
       rw [e];exact we (by simp (disch:=omega) only [WJ,zShe,Zn,go_sem,seval])
      ·refine Zq (Weak.fz (o:=4) (by rfl)) (Zg [] _ _ _ _ (Vm ?_));refine cD ?_ ?_<;>intro h4<;>simp (disch:=omega) only [Sh.out h4,go_sem,seval,↓reduceIte]
       ·have e:Wm t sp k g d s M=(WJ,16):=by rw [Wm,if_neg h1,if_pos Za,if_neg h3,if_pos h4]
        rw [e];exact we (by simp (disch:=omega) only [WJ,zShe,Zn,go_sem,seval])
       ·have e:Wm t sp k g d s M=(⟨g.1,s+g.1-d,{ M with fin:=g.1,miles:=M.miles+g.2.1 }⟩,0):=by rw [Wm,if_neg h1,if_pos Za,if_neg h3,if_neg h4]
        have hMc:M.times_c=false:=by
         rw [<- hM,XF,if_neg Za]
         grind
        rw [e];exact we (by simp (disch:=omega) only [hMc,go_sem,seval])
     ·have h2': ¬k=sp.length:=Za
      have hkl:k<sp.length:=Za
      have hstp:=hok.stp _ (ZF hkl);refine Yd (oW (nth sp k) g.1) ?_;unfold Oz
      by_cases h3:(nth sp k).cls<max g.1 (nth sp k).opn
      ·have e:Wm t sp k g d s M=(WJ,14):=by simp_all [Wm]
       rw [e,if_pos h3];refine Zc ?_;exact we (by simp (disch:=omega) only [WJ,zShe,Zn,go_sem,seval])
      ·rw [if_neg h3];refine Zc ?_;refine Zq (Weak.fz (o:=4) (by rfl)) (Zg [] _ _ _ _ (Vm ?_));refine cD ?_ ?_<;>intro h4<;>simp (disch:=omega) only [Sh.out h4,go_sem,seval,↓reduceIte]
       ·have e:Wm t sp k g d s M=(WJ,16):=by simp_all [Wm]
        rw [e];exact we (by simp (disch:=omega) only [WJ,zShe,Zn,go_sem,seval])
       ·have e:Wm t sp k g d s M=(⟨max g.1 (nth sp k).opn+(nth sp k).serv,s+g.1-d,{ M with times_c:=false,times:=M.times++ [⟨g.1,max g.1 (nth sp k).opn,0,false⟩],miles:=M.miles+g.2.1 }⟩,0):=by simp_all [Wm,if_neg]
        rw [e];exact we
theorem TK {x t sp k L b} (hs:0<sp.length) (hc:0<k->L.she.times_c=false) (he:(XX x t sp k L b).2=0):(XX x t sp k L b).1.she.times_c=false:=by
 have hm:0<k->(XF k (ZJ t L b) b L.she).times_c=false:=fun h=>by rw [XF,if_neg Za];exact hc h
 unfold XX at he ⊢
 generalize YY x t sp k (ZJ t L b)=g at *
 generalize ZJ t L b=d at *
 generalize W0 L b=s at *
 generalize XF k d b L.she=m at *
 unfold Wm at he ⊢
 grind
structure LabO (n k:Nat) (L:Lab):Prop where
 rng:LabR k L
 len:k<=n->L.she.times.length=k
 clip:0<k->L.she.times_c=false
theorem Hr {x t sp k L b} (hok:TrpOk x t sp) (hs:0<sp.length) (hk:k<=sp.length) (h:LabO sp.length k L) (he:(XX x t sp k L b).2=0):LabO sp.length (k+1) (XX x t sp k L b).1 :=
 ⟨La hok hk h.rng he,fun hk2=>FA (h.len hk) he Za,fun _=>TK hs h.clip he⟩
theorem Hs {x t sp} (hok:TrpOk x t sp) {st:Int} (hst:0<=st/\st<=4096):LabO sp.length 0 (Xk t st) :=
 ⟨⟨by have:=hok.opn;grind [Xk],by simp [Xk],by simp [Xk,zShe]⟩,fun _=>rfl,fun h=>Za⟩
theorem RX (x:Inst) (t:Typ) (r:Rte) (c:Bool) (sp:List Stp) (hok:TrpOk x t sp) (k:Nat) (hk:k<=sp.length) (hs1:0<sp.length) (L:Lab) (hL:LabO sp.length k L) (b:Bool) :
  PT 295 [.p (My x t r c sp),.p (Jm L),.p (.int .i64 (k:Nat)),.p (.bool b)] [.p (Jm (XX x t sp k L b).1),.p (.int .i64 (XX x t sp k L b).2)] :=
 Zc8 x t r c sp hok k hk hs1 L hL.rng (hL.len hk) hL.clip b
theorem ZjW (x:Inst) (t:Typ) (r:Rte) (c:Bool) (sp:List Stp) (hok:TrpOk x t sp) (hs1:0<sp.length) (hst:0<=r.start/\r.start<=4096) (bs:List Bool) (d:Bool) (hb:bs.length=sp.length+1) :
  PT 272 [.p (My x t r c sp),.p (.list d (bs.map eB))] [.p (BR (Xa x t sp 0 (Xk t r.start) bs).1.she),.p (.int .i64 (Xa x t sp 0 (Xk t r.start) bs).2)]:=by
 have hsl:=hok.len;refine Zf [] Tryz.func272 rfl Zb5 ?_;simp (disch:=omega) only [Tryz.f272,go_sem,seval];refine (G2 x t r c sp).use (Zc ?_)
 refine Zk [2,4,6,13,14] (fun q:Nat×Lab=> [(15,.p (.int .i64 q.1))]) (fun q=> [Y3 x t r c sp,.cells [.p (.bool false),.p (.int .i64 0),.p (.list true []),.p (.int .i64 0),.p (.int .i64 0)],WO q.2])
  (fun q=>q.1<=bs.length/\Xa x t sp 0 (Xk t r.start) bs=Xa x t sp q.1 q.2 (bs.drop q.1)/\LabO sp.length q.1 q.2) (fun q=>bs.length-q.1) (0,Xk t r.start) ⟨Zb,Zb,Hs hok hst⟩ (Weak.mk ?_) ?_
 ·simp (disch:=omega) only [Y3,WO,go_sem,seval]
 ·rintro ⟨k,L⟩ ⟨hk,hrun,hL⟩;simp only at hk hrun hL;simp (disch:=omega) only [Y3,WO,go_sem,seval];refine cD ?_ ?_<;>intro h1<;>simp (disch:=omega) only [Sh.out h1,go_sem,seval,↓reduceIte]
  ·have hk2:k<bs.length:=Za
   have hdrop:bs.drop k=nth bs k::bs.drop (k+1):=by rw [UO hk2,Zi hk2]
   rw [hdrop,Xa] at hrun;have cn:=RX x t r c sp hok k Za hs1 L hL (nth bs k);have hL2:=Hr (x:=x) (t:=t) (b:=nth bs k) hok hs1 Za hL
   generalize XX x t sp k L (nth bs k)=N at *
   refine Yd cn (Zc ?_);refine ZI ?_ ?_<;>intro h2
   ·rw [hrun,if_neg h2];exact we (by simp (disch:=omega) only [WJ,zShe,Zn,go_sem,seval])
   ·rw [if_pos Za] at hrun;exact ⟨(k+1,N.1),⟨Za,hrun,hL2 Za⟩,Za,wk⟩
  ·have hkl:k=bs.length:=Za
   subst hkl;rw [Qd,Xa] at hrun;rw [hrun];exact we
theorem oU (l m:Lab):PC 298 [.p (Jm l),.p (Jm m)] (.bool (Xg l m)):=by
 refine Zd Tryz.func298 rfl Zcq ?_;simp (disch:=omega) only [Tryz.f298,go_sem,seval];refine gT ?_ ?_<;>intro h<;>simp (disch:=omega) only [Sh.out h,go_sem,seval,↓reduceIte]
 ·simp [Xg,h]
 ·simp [Xg,h]
def gH (x:Inst) (t:Typ) (r:Rte) (c:Bool) (sp:List Stp) (o:List Lab) (f z:Lab):List AM.Obj:= [Y3 x t r c sp,.dead,.elems 7 (o.map Jm),WO f,WO z]
theorem qN (x:Inst) (t:Typ) (r:Rte) (c:Bool) (sp:List Stp) (o:List Lab) (f z m:Lab):ACalls Tryz.prog 297 [.p (Jm m),.ptr 4 0] (gH x t r c sp o f z) fun y H'=>y= .p (.bool (Xg m z))/\H'=gH x t r c sp o f z:=by
 refine Zf [] Tryz.func297 rfl Zcp ?_;simp (disch:=omega) only [Tryz.f297,gH,Y3,WO,go_sem,seval];refine (oU m z).use (Zc ?_);exact we
theorem OY (x:Inst) (t:Typ) (r:Rte) (c:Bool) (sp:List Stp) (o:List Lab) (f z:Lab) (hl:o.length<=2097152) :
  ACalls Tryz.prog 314 [.sl 2 0 o.length o.length,.fn (.func 297) [] [.ptr 4 0]] (gH x t r c sp o f z) fun y H'=>y= .p (.int .i64 (vY (fun m=>Xg m z) o))/\H'=gH x t r c sp o f z:=by
 refine Zf [] Tryz.func314 rfl ZcE ?_;simp (disch:=omega) only [Tryz.f314,gH,Y3,WO,go_sem,seval];refine Zk [0,1,7] (fun k:Nat=> [(8,.p (.int .i64 k))]) (fun _=>gH x t r c sp o f z) (fun k=>k<=o.length/\ ∀j,j<k->Xg (nth o j) z=false) (fun k=>o.length-k) 0 Zb (Weak.mk ?_) ?_
 ·simp (disch:=omega) only [gH,Y3,WO,go_sem,seval,↓reduceIte]
 ·rintro k ⟨hk,hno⟩;simp (disch:=omega) only [gH,Y3,WO,go_sem,seval];refine cD ?_ ?_<;>intro h<;>simp (disch:=omega) only [Sh.out h,go_sem,seval,↓reduceIte]
  ·have hk2:k<o.length:=Za
   have hg:=qN x t r c sp o f z (nth o k);simp (disch:=first | omega | (simp only [Zw,Zz,ZG,ZK,ZQ,Z4]<;>omega)) only [YC hk2,hk2,go_sem,seval,↓reduceIte];simp (disch:=omega) only [gH,Y3,WO,go_sem,seval] at hg;refine hg.useH (Zc ?_);refine cD ?_ ?_<;>intro h2<;>simp (disch:=omega) only [Sh.out h2,go_sem,seval,↓reduceIte]
   ·rw [gN (f:=fun m=>Xg m z) hk2 h2 hno];exact we
   ·exact ⟨k+1,⟨Za,Zm.2 ⟨hno,Za⟩⟩,Za,wk⟩
  ·have hkl:k=o.length:=Za
   subst hkl;rw [gP hno];exact we
theorem GC (x:Inst) (t:Typ) (r:Rte) (c:Bool) (sp:List Stp) (o:List Lab) (f z:Lab) (hl:o.length<=2097152) :
  ACalls Tryz.prog 296 [.sl 2 0 o.length o.length,.fn (.func 297) [] [.ptr 4 0]] (gH x t r c sp o f z) fun y H'=>y= .p (.bool (o.any fun m=>Xg m z))/\H'=gH x t r c sp o f z:=by
 refine Zf [] Tryz.func296 rfl Zco ?_;simp (disch:=omega) only [Tryz.f296,go_sem,seval];refine (OY x t r c sp o f z hl).useH (Zc ?_);rw [gO];exact we (by simp (disch:=omega) only [gH,Y3,WO,go_sem,seval])
def BJ (x:Inst) (t:Typ) (sp:List Stp) (r:List Bool) (k:Nat) (f:Lab) (bs:List Bool) (l:List Lab):List Lab:=bs.filterMap (XP x t sp k f)++Vh (XP x t sp) (Uq r) k l
theorem Zaa (x:Inst) (t:Typ) (r:Rte) (c:Bool) (sp:List Stp) (hok:TrpOk x t sp) (hs1:0<sp.length) (k:Nat) (hk:k<=sp.length) (hrl:r.rests.length<=1048576) (l:List Lab) (d:Bool) (hl:l.length<=1048576) (hL: ∀L∈l,LabO sp.length k L) :
  PC 271 [.p (My x t r c sp),.p (.list d (l.map Jm)),.p (.int .i64 (k:Nat))] (.list false ((Yc Xg [] (Vh (XP x t sp) (Uq r.rests) k l)).map Jm)):=by
 have hsl:=hok.len;refine Zf [2,16] Tryz.func271 rfl Zb4 ?_;simp (disch:=omega) only [Tryz.f271,go_sem,seval];refine Zq (Weak.fz (o:=1) (by rfl)) (Vm ?_);refine ZD [1,2,3] (fun cb:Bool=> [(7,.p (.list cb ((Uq r.rests k).map eB)))]) (fun _=> [Y3 x t r c sp,.dead]) (fun _=>True) ?_ ?_
 ·refine Zc ?_;refine ZI ?_ ?_<;>intro h
  ·have hk2:k<r.rests.length:=Za
   have e:Uq r.rests k=(r.rests.take (k+1)).drop k:=by
    grind [Uq,Xl]
   exact ⟨r.rests_c&&decide ((k:Int)+1=(r.rests.length:Int)),Weak.mk (by simp (disch:=omega) only [Y3,e,go_sem,seval])⟩
  ·have e:Uq r.rests k= [false,true]:=by grind [Uq]
   exact ⟨false,Weak.mk (by simp (disch:=omega) only [Y3,e,Zs,Zn,go_sem,seval])⟩
 ·intro cb _
  have hch:(Uq r.rests k).length<=2:=by grind [Uq]
  refine Zg [16] _ _ _ _ ?_;simp (disch:=omega) only [Y3,go_sem,seval]
  refine ZO [16] [2,3,7,29,30] (fun q:Nat×List Lab=> [(8,.sl 2 0 q.2.length q.2.length),(31,.p (.int .i64 q.1))]) (fun q=> [Y3 x t r c sp,.dead,.elems 7 (q.2.map Jm)])
   (fun q=>q.1<=l.length/\Yc Xg [] (Vh (XP x t sp) (Uq r.rests) k l)=Yc Xg q.2 (Vh (XP x t sp) (Uq r.rests) k (l.drop q.1))/\q.2.length<=2*q.1) (fun q=>l.length-q.1) (0,[]) Zb (Weak.ofNil 8 7 rfl Zb (Weak.mk ?_)) ?_
  ·simp (disch:=omega) only [Y3,Zn,Zz,go_sem,seval]
  ·rintro ⟨i,o⟩ ⟨hi,hpr,hol⟩;simp only at hi hpr hol;simp (disch:=omega) only [Y3,go_sem,seval];refine cD ?_ ?_<;>intro h1<;>simp (disch:=omega) only [Sh.out h1,go_sem,seval,↓reduceIte]
   ·have hi2:i<l.length:=Za
    have hLi:=hL _ (ZF hi2)
    have hdrop:l.drop i=nth l i::l.drop (i+1):=by rw [UO hi2,Zi hi2]
    rw [hdrop] at hpr;have hpr:Yc Xg [] (Vh (XP x t sp) (Uq r.rests) k l)=Yc Xg o (BJ x t sp r.rests k (nth l i) ((Uq r.rests k).drop 0) (l.drop (i+1))):=hpr
    refine Zk [2,3,7,10,29,30,31,35,36] (fun q:Nat×List Lab=> [(8,.sl 2 0 q.2.length q.2.length),(37,.p (.int .i64 q.1))]) (fun q=> [Y3 x t r c sp,.dead,.elems 7 (q.2.map Jm),WO (nth l i)])
     (fun q=>q.1<=(Uq r.rests k).length/\Yc Xg [] (Vh (XP x t sp) (Uq r.rests) k l)=Yc Xg q.2 (BJ x t sp r.rests k (nth l i) ((Uq r.rests k).drop q.1) (l.drop (i+1)))/\q.2.length<=2*i+q.1) (fun q=>(Uq r.rests k).length-q.1) (0,o) ⟨Zb,hpr,hol⟩ (Weak.mk ?_) ?_
    ·simp (disch:=omega) only [Y3,WO,go_sem,seval]
    ·clear hpr hol;rintro ⟨j,o⟩ ⟨hj,hpr,hol⟩;simp only at hj hpr hol;simp (disch:=omega) only [Y3,WO,go_sem,seval];refine ZI ?_ ?_<;>intro h2
     ·have hj2:j<(Uq r.rests k).length:=Za
      have hd2:(Uq r.rests k).drop j=nth (Uq r.rests k) j::(Uq r.rests k).drop (j+1):=by rw [UO hj2,Zi hj2]
      have cn:=RX x t r c sp hok k hk hs1 (nth l i) hLi (nth (Uq r.rests k) j);have ho2:XP x t sp k (nth l i) (nth (Uq r.rests k) j)=if (XX x t sp k (nth l i) (nth (Uq r.rests k) j)).2=0 then some (XX x t sp k (nth l i) (nth (Uq r.rests k) j)).1 else none:=rfl;rw [hd2,BJ,List.filterMap_cons,ho2] at hpr
      generalize XX x t sp k (nth l i) (nth (Uq r.rests k) j)=N at *
      refine Yd cn (Zc ?_);refine Bb ?_ ?_<;>intro h3
      ·have hcl:=GC x t r c sp o (nth l i) N.1 Za;simp (disch:=omega) only [gH,Y3,WO,go_sem,seval] at hcl;refine hcl.useH (Zc ?_);rw [if_pos h3] at hpr;have hpr:Yc Xg [] (Vh (XP x t sp) (Uq r.rests) k l)=if (o.any fun m=>Xg m N.1)=true then Yc Xg o (BJ x t sp r.rests k (nth l i) ((Uq r.rests k).drop (j+1)) (l.drop (i+1))) else Yc Xg (o++ [N.1]) (BJ x t sp r.rests k (nth l i) ((Uq r.rests k).drop (j+1)) (l.drop (i+1))):=hpr;refine ZI ?_ ?_<;>intro h4
       ·rw [if_neg (by grind)] at hpr;exact ⟨(j+1,o++ [N.1]),⟨Za,hpr,by simp;omega⟩,Za,Weak.mk (by simp (disch:=omega) only [ZG,Zw,Zz,XA,Zs,Zn,go_sem,seval])⟩
       ·rw [if_pos (by grind)] at hpr;exact ⟨(j+1,o),⟨Za,hpr,by grind⟩,Za,wk⟩
      ·rw [if_neg h3] at hpr;exact ⟨(j+1,o),⟨Za,hpr,by grind⟩,Za,wk⟩
     ·have hjl:j=(Uq r.rests k).length:=Za
      subst hjl;rw [Qd,BJ,List.filterMap_nil,ZM] at hpr;exact ⟨(i+1,o),⟨Za,hpr,by grind⟩,Za,wk⟩
   ·have hil:i=l.length:=Za
    subst hil;have e:Vh (XP x t sp) (Uq r.rests) k []= []:=rfl;rw [Qd,e,Yc] at hpr;rw [hpr];refine Zq (Weak.fz (o:=2) (by rfl)) (Zg [] _ _ _ _ (Vm ?_));exact we
def pU : PV:= .agg [.list true [],.list true [],.list true [],.list true [],.list true [],.list true [],.str [],.int .i64 0,.int .i64 0,.int .i64 0,.list true [],.int .i64 0,.int .i64 0,.int .i64 0,.int .i64 0,.int .i64 0,.int .i64 0,.int .i64 0,.int .i64 0,.int .i64 0,.int .i64 0,.int .i64 0,.list true [],.list true [],.list true []]
theorem rZ (x:Inst) (r:Rte) (hty:0<=r.typ/\r.typ<(x.types.length:Int)) (htl:x.types.length<=1048576) (hvl:r.visits.length<=20) (hs: ¬(0<=r.start/\r.start<=4096)) :
  PT 269 [.p (ZE x),.p (Z0 r)] [.p pU,.p (.bool false)]:=by
 have e1: ¬r.typ<0:=Za
 have e2: ¬(x.types.length:Int)<=r.typ:=Za
 refine Zf [] Tryz.func269 rfl iD ?_;simp (disch:=omega) only [Tryz.f269,e1,e2,go_sem,seval];refine gF ?_ ?_<;>intro h1<;>simp (disch:=omega) only [Sh.out h1,go_sem,seval,↓reduceIte]
 ·exact we (by simp (disch:=omega) only [pU,go_sem,seval])
 ·refine gF ?_ ?_<;>intro h2<;>simp (disch:=omega) only [Sh.out h2,go_sem,seval,↓reduceIte]
  ·exact we (by simp (disch:=omega) only [pU,go_sem,seval])
  ·omega
theorem NC {x t sp} : ∀(bs:List Bool) (k:Nat) (L:Lab),¬(Xa x t sp k L bs).2=0->(Xa x t sp k L bs).1=WJ
 | [],k,L,h=>by simp [Xa] at h
 | b::bs,k,L,h=>by
  rw [Xa] at h ⊢
  split
  ·rename_i c;rw [if_pos c] at h;exact NC bs (k+1) _ h
  ·rfl
theorem Ti (n:Nat):List.replicate n false∈YM (List.replicate n false):=by
 rw [fromB_next];simp
theorem gD {l:List Lab} (h:W7 Wb none l=none):l= []:=by
 cases l with
 | nil=>rfl
 | cons a l =>
  obtain ⟨z,hz,_⟩:=V5 (fin:=Wb) l a;have:W7 Wb none (a::l)=W7 Wb (some a) l:=rfl
  grind
theorem SX {x t sp} {st:Int} {r:List Bool} (h:W7 Wb none ((XZ r (sp.length+1)).filterMap (WT (XP x t sp) 0 (Xk t st)))=none): ¬(Xa x t sp 0 (Xk t st) (YZ r (sp.length+1))).2=0:=fun h0=>by
 have h1:=gD h;have h2:YZ r (sp.length+1)∈XZ r (sp.length+1):=Xv.2 ⟨_,Ti _,rfl⟩
 simp_all [Y9]
theorem OD {x t sp} {st:Int} {r:List Bool} (hr:r.length<=sp.length+1) (h:W7 Wb none (J1 Xg (XP x t sp) (Uq r) (sp.length+1) 0 [Xk t st])=none): ¬(Xa x t sp 0 (Xk t st) (YZ r (sp.length+1))).2=0 :=
 SX (by rw [Ht,VA,He r _ hr] at h;exact h)
def QK (x:Inst) (r:Rte):She×Int:=if 0<=r.start/\r.start<=4096/\r.rests.length<=r.visits.length+1 then Xh x r else (zShe,2)
theorem dY {x t sp} {ch:Nat->List Bool} {k:Nat} {l:List Lab} (hok:TrpOk x t sp) (hs:0<sp.length) (hk:k<=sp.length) (h: ∀L∈l,LabO sp.length k L): ∀L∈Yc Xg [] (Vh (XP x t sp) ch k l),LabO sp.length (k+1) L:=fun L hL=>by
 have h1:=AF Xg _ _ L hL;rw [ZM] at h1;obtain ⟨a,ha,hb⟩:=Ws.1 h1
 grind [XP,Hr]
theorem Dp : ∀(c out:List Lab),(Yc Xg out c).length<=out.length+c.length
 | [],out=>by simp [Yc]
 | x::c,out=>by
  rw [Yc]
  split
  ·have:=Dp c out;simp;omega
  ·have:=Dp c (out++ [x]);simp at this ⊢;omega
theorem G4 {x t sp} {r:List Bool} {k:Nat} : ∀l:List Lab,(Vh (XP x t sp) (Uq r) k l).length<=2*l.length
 | []=>by simp [Vh]
 | a::l=>by
  have ih:=G4 (x:=x) (t:=t) (sp:=sp) (r:=r) (k:=k) l;have h1:(Vh (XP x t sp) (Uq r) k (a::l))=(Uq r k).filterMap (XP x t sp k a)++Vh (XP x t sp) (Uq r) k l:=rfl
  grind [Uq]
theorem rQ (x:Inst) (r:Rte) (hx:InstOk x) (hl:r.visits.length<=1048576) (hrl:r.rests.length<=1048576) (hty:0<=r.typ/\r.typ<(x.types.length:Int)) (h0:Xw x r.visits=0) :
  PT 221 [.p (ZE x),.p (Z0 r)] [.p (BR (QK x r).1),.p (.int .i64 (QK x r).2)]:=by
 have hd:=Qb hx;have hsq:=W4 h0;have hol:=hd.ord;have htl:=hd.typ;have hvl:=hsq.len hol;have hok:=Q8 hx hty hsq;have hsl:(Xp x r.visits).length=r.visits.length:=X4
 have hs1:0<(Xp x r.visits).length:=by
  rw [hsl];have:=hsq.ne
  grind
 refine Zf [6,13,14] Tryz.func221 rfl Zbv ?_;simp (disch:=omega) only [Tryz.f221,go_sem,seval]
 by_cases hs:0<=r.start/\r.start<=4096
 ·refine Yd (Zdm x r hx hty h0 hs) (Zc ?_);refine cD ?_ ?_<;>intro h1<;>simp (disch:=omega) only [Sh.out h1,go_sem,seval,↓reduceIte]
  ·have e:QK x r=(zShe,2):=by rw [QK,if_neg Za]
   rw [e];exact we (by simp (disch:=omega) only [zShe,Zn,go_sem,seval])
  ·have hrs:r.rests.length<=r.visits.length+1:=Za
   have e:QK x r=Xh x r:=by simp_all [QK]
   have hbn:= @OD x (ZN x r) (Xp x r.visits) r.start r.rests Za;rw [e,Xh,IA Za];refine (G2 x (ZN x r) r false (Xp x r.visits)).use (Zc ?_)
   generalize hT:ZN x r=t at *
   generalize hS:Xp x r.visits=sp at *
   refine Zq (Weak.fz (o:=4) (by rfl)) ?_;refine Zg [13,14] _ _ _ _ (Zc ?_)
   refine ZO [13,14] [3,4,6,8,38] (fun q:Nat×List Lab=> [(9,.p (.list false (q.2.map Jm))),(39,.p (.int .i64 q.1))]) (fun _=> [Zh x,ZA r,.cells [.p (.bool false),.p (.int .i64 0),.p (.list true []),.p (.int .i64 0),.p (.int .i64 0)],Y3 x t r false sp,.dead])
    (fun q=>q.1<=sp.length+1/\J1 Xg (XP x t sp) (Uq r.rests) (sp.length+1) 0 [Xk t r.start]=J1 Xg (XP x t sp) (Uq r.rests) (sp.length+1-q.1) q.1 q.2/\(∀L∈q.2,LabO sp.length q.1 L)/\q.2.length<=2^q.1) (fun q=>sp.length+1-q.1) (0,[Xk t r.start]) ⟨Zb,Zb,fun L hL=>by grind [Hs],Zb⟩ (Weak.mk ?_) ?_
   ·simp (disch:=omega) only [Zh,ZA,Y3,Zs,Zn,XE,Xe,go_sem,seval]
   ·rintro ⟨k,l⟩ ⟨hk,hit,hlo,hll⟩;simp only at hk hit hlo hll;simp (disch:=omega) only [Zh,ZA,Y3,go_sem,seval];refine cD ?_ ?_<;>intro h2<;>simp (disch:=omega) only [Sh.out h2,go_sem,seval,↓reduceIte]
    ·have hk2:k<=sp.length:=Za
     have hp20:2^k<=2^20:=Y1 Za Za;refine (Zaa x t r false sp hok hs1 k hk2 hrl l false Za hlo).use (Zc ?_)
     have hn:J1 Xg (XP x t sp) (Uq r.rests) (sp.length+1-k) k l=J1 Xg (XP x t sp) (Uq r.rests) (sp.length+1-(k+1)) (k+1) (Yc Xg [] (Vh (XP x t sp) (Uq r.rests) k l)):=by
      have e:sp.length+1-k=(sp.length+1-(k+1))+1:=Za
      rw [e,J1]
     have hln:=Dp (Vh (XP x t sp) (Uq r.rests) k l) [];have hln2:=G4 (x:=x) (t:=t) (sp:=sp) (r:=r.rests) (k:=k) l;exact ⟨(k+1,Yc Xg [] (Vh (XP x t sp) (Uq r.rests) k l)),⟨Za,hit.trans hn,dY hok hs1 hk2 hlo,by grind⟩,Za,Weak.mk (by simp (disch:=omega) only [XE,Xe,go_sem,seval])⟩
    ·have hkn:k=sp.length+1:=Za
     subst hkn;rw [Ay,J1] at hit;rw [hit] at hbn ⊢;clear hit;refine cD ?_ ?_<;>intro h3<;>simp (disch:=omega) only [Sh.out h3,go_sem,seval,↓reduceIte]
     ·have hl0:l= []:=Yt Za;subst hl0;have hbn:=hbn rfl;refine Vs (Iw 3 rfl rfl (Zc ?_));refine ⟨_,_,Nk (e:=4) rfl Tryz.underlying46 Ze rfl rfl rfl ?_ ?_ ?_,?_⟩
      ·simp
      ·simp;omega
      ·intro q hq;obtain ⟨b,_,rfl⟩:=Xv.1 hq
       rfl
      ·have hpl:(YZ r.rests (sp.length+1)).length=sp.length+1:=by simp [YZ];omega
       have hpad:r.rests.map eB++(PV.bool false::List.replicate r.visits.length (PV.bool false)).drop (r.rests.map eB).length=(YZ r.rests (sp.length+1)).map eB:=by
        rw [YZ,XA,<- Kt,List.drop_replicate,List.map_replicate,hsl,ZK];rfl
       have hcr:=ZjW x t r false sp hok hs1 hs (YZ r.rests (sp.length+1)) false hpl;have hbad:=NC _ _ _ hbn;rw [hbad] at hcr;simp only [XE,Xe];rw [hpad]
       generalize hRP:YZ r.rests (sp.length+1)=rp at *
       refine Zq (Weak.fz (o:=5) (by rfl)) (Zg [] _ _ _ _ (Vm ?_));rw [if_pos Za];refine Yd hcr (Zc ?_);have hfm0:W7 Wb none ([]:List Lab)=none:=rfl;rw [hfm0];exact we (by simp (disch:=omega) only [WJ,zShe,Zn,go_sem,seval])
     ·cases l with
      | nil=>simp at h3
      | cons l0 l =>
       have e0:Ut ((l0::l).map Jm) 0=Jm l0:=rfl;have hn0:nth (l0::l) 0=l0:=rfl;simp (disch:=first | omega | (simp only [Zw,Zz,ZG,ZK,ZQ,Z4]<;>omega)) only [hn0,Xi,go_sem,seval];have hfm:W7 Wb none (l0::l)=W7 Wb (some l0) l:=rfl;rw [hfm]
       have hlen:l.length<=2097152:=by
        have hp20:2^(sp.length+1)<=2^21:=Y1 Za Za
        grind
       refine Zk [4,12,65,66] (fun q:Nat×Lab=> [(67,.p (.int .i64 q.1))]) (fun q=> [Zh x,ZA r,.cells [.p (.bool false),.p (.int .i64 0),.p (.list true []),.p (.int .i64 0),.p (.int .i64 0)],Y3 x t r false sp,.dead,WO q.2])
        (fun q=>q.1<=l.length/\W7 Wb (some l0) l=W7 Wb (some q.2) (l.drop q.1)) (fun q=>l.length-q.1) (0,l0) Zb (Weak.mk ?_) ?_
       ·simp (disch:=omega) only [Zh,ZA,Y3,WO,go_sem,seval]
       ·rintro ⟨i,m⟩ ⟨hi,hm⟩;simp only at hi hm;simp (disch:=omega) only [Zh,ZA,Y3,WO,go_sem,seval];refine cD ?_ ?_<;>intro h4<;>simp (disch:=omega) only [Sh.out h4,go_sem,seval,↓reduceIte]
        ·have hi2:i<l.length:=Za
         have hdrop:l.drop i=nth l i::l.drop (i+1):=by rw [UO hi2,Zi hi2]
         rw [hdrop,W7] at hm;refine ZI ?_ ?_<;>intro h5
         ·rw [if_pos (show Wb (nth l i)<Wb m from h5)] at hm;exact ⟨(i+1,nth l i),⟨Za,hm⟩,Za,wk⟩
         ·rw [if_neg (show ¬Wb (nth l i)<Wb m from h5)] at hm;exact ⟨(i+1,m),⟨Za,hm⟩,Za,wk⟩
        ·have hil:i=l.length:=Za
         subst hil;rw [Qd,W7] at hm;rw [hm];exact we
 ·have e:QK x r=(zShe,2):=by rw [QK,if_neg (fun h=>hs ⟨h.1,h.2.1⟩)]
  rw [e];refine Yd (rZ x r hty htl hvl hs) ?_;simp (disch:=omega) only [pU,go_sem,seval];exact we (by simp (disch:=omega) only [zShe,Zn,go_sem,seval])
end Go.Proofs.YtiigdaohjanidaaGreatDoor.K
namespace Go.AM
open Go.RowKit
theorem jC (k v:Int) (l:List (Int×Int)): ∃l',jB (.int .i64 k) (.int .i64 v) (l.map eII)=l'.map eII/\(∀q,Kz l' q=if q=k then v else Kz l q)/\l'.length<=l.length+1:=by
 unfold jB;rw [De]
 cases hm:HD l k with
 | none =>
  refine ⟨l++ [(k,v)],by simp [eII],fun q=> ?_,Zb⟩
  have e1:HD (l++ [(k,v)]) k=some l.length:=by
   grind [HD]
  by_cases hq:q=k
  ·grind [Kz]
  ·rw [if_neg hq];unfold Kz
   have e3:HD (l++ [(k,v)]) q=HD l q:=by
    grind [HD]
   rw [e3]
   cases hc:HD l q with
   | none=>rfl
   | some i =>
    unfold HD at hc
    grind [Qx]
 | some i =>
  refine ⟨l.set i (k,v),by simp_all [eII],?_,Zb⟩;have hH:oat [.map (l.map eII)] 0= .map (l.map eII):=rfl;have:=O4 (H:= [.map (l.map eII)]) (o:=0) (l:=l) (k:=k) (i:=i) (v:=v) (K:=fun _ _=> ∀q,Kz (l.set i (k,v)) q=if q=k then v else Kz l q) hH hm fun h=>h;unfold K5 at this;obtain ⟨u,q1,_⟩:=Fu hm
  simp_all [A0]
theorem jD {P:Program} {H:List Obj} {t:TypeId} {o:Nat} {l:List (Int×Int)} {k v:Int} {K:V->List Obj->Prop} (hT:iT P t=some (.int .i64,some (.int .i64 0))) (hH:oat H o= .map (l.map eII))
  (h: ∀l':List (Int×Int),(∀q,Kz l' q=if q=k then v else Kz l q)->K .junk (H.set o (.map (l'.map eII)))):A0 (DE P H t (.mp o) (.p (.int .i64 k)) (.p (.int .i64 v))) K:=by
 obtain ⟨kt,et,h1,h2,h3⟩:=M6 hT;obtain ⟨l',e,hg,_⟩:=jC k v l
 grind [DE,Hw,A0]
end Go.AM
namespace Go.Proofs.YtiigdaohjanidaaGreatDoor.K
open Go Go.AM Go.Proofs
set_option maxRecDepth 8000
set_option maxHeartbeats 8000000
def EZ (l:List Vis) (k:Nat) (q:Int):Int:=((l.take k).countP fun v=>decide (v.order=q):Nat)
theorem S8 {l:List Vis} {k:Nat} (h:k<l.length) (q:Int):EZ l (k+1) q=if q=(nth l k).order then EZ l k q+1 else EZ l k q:=by
 unfold EZ;rw [Xl h,List.countP_append,Zi h]
 grind
theorem eU {l:List Vis} {k:Nat} (h:k<=l.length) (q:Int):0<=EZ l k q/\EZ l k q<=k:=by
 grind [EZ,ZQ]
theorem OJ {l:List Vis} {k:Nat} :Uf l k=decide (EZ l k (nth l k).order=0):=by
 unfold Uf EZ;rw [Yj];simp
theorem Bk (a b:Int):PC 273 [.p (.int .i64 a),.p (.int .i64 b)] (.bool (Xt a b)):=by
 refine Zd Tryz.func273 rfl Zb6 ?_;simp (disch:=omega) only [Tryz.f273,go_sem,seval];refine gT ?_ ?_<;>intro h<;>simp (disch:=omega) only [Sh.out h,go_sem,seval,↓reduceIte]
 ·simp [Xt,h]
 simp_all [Xt]
theorem kJ (x:Inst) (r:Rte) (s:She) (hty:0<=r.typ/\r.typ<(x.types.length:Int)) (ho:x.orders.length<=1048576) (ht:x.types.length<=1048576) (hl:r.visits.length<=1048576) (hv:Inr x r.visits)
  (hc:0<=(ZN x r).fixed/\(ZN x r).fixed<=100000/\0<=(ZN x r).perMile/\(ZN x r).perMile<=100/\0<=(ZN x r).perTick/\(ZN x r).perTick<=100) (ho2:0<=(ZN x r).opn/\(ZN x r).opn<=4096)
  (hf: -4096<=s.fin/\s.fin<=8192) (hm:0<=s.miles/\s.miles<=1000000) :
  PC 222 [.p (ZE x),.p (Z0 r),.p (BR s)] (AQ (Dt x r s)):=by
 have hti:r.typ.toNat<x.types.length:=Za
 have hT:iT Tryz.prog 334=some (.int .i64,some (.int .i64 0)):=Ze
 unfold Dt;have htd:nth x.types r.typ.toNat=ZN x r:=rfl
 generalize ZN x r=t at *
 have e1: ¬r.typ<0:=Za
 have e2: ¬(x.types.length:Int)<=r.typ:=Za
 have p1:0<=t.perMile*s.miles/\t.perMile*s.miles<=100*1000000:=⟨Uj Za Za,Vy Za Za Za Za⟩
 have hW: -8192<=s.fin-t.opn/\s.fin-t.opn<=8192:=Za
 have p2: -819200<=t.perTick*(s.fin-t.opn)/\t.perTick*(s.fin-t.opn)<=819200:=by
  generalize s.fin-t.opn=w at hW;have a1:=Bg hW.2 (show 0<=t.perTick by omega);have a2:=Bg hW.1 (show 0<=t.perTick by omega);omega
 have p3: -128<=(s.fin-t.opn).tdiv 64/\(s.fin-t.opn).tdiv 64<=128:=by
  grind
 have p4:0<=(s.fin-t.opn).tdiv 64*(s.fin-t.opn).tdiv 64/\(s.fin-t.opn).tdiv 64*(s.fin-t.opn).tdiv 64<=16384:=by
  generalize (s.fin-t.opn).tdiv 64=q at p3;refine ⟨?_,?_⟩
  ·rcases Au 0 q with h | h
   ·exact Uj h h
   ·exact Int.mul_nonneg_of_nonpos_of_nonpos h h
  ·rcases Au 0 q with h | h
   ·have:=Vy p3.2 p3.2 h Za;omega
   ·have h2:0<= -q:=Za
    have:=Vy (show-q<=128 by omega) (show-q<=128 by omega) h2 Za
    grind
 refine Zd Tryz.func222 rfl Zbw ?_;simp (disch:=omega) only [Tryz.f222,e1,e2,htd,go_sem,seval]
 refine Zk [3,4,6,10,11,59,60] (fun q:Nat×List (Int×Int)=> [(61,.p (.int .i64 q.1))]) (fun q=> [Zh x,ZA r,.cells [.p (.bool s.rest),.p (.int .i64 s.dep),.p (.list s.times_c (s.times.map eTim)),.p (.int .i64 s.fin),.p (.int .i64 s.miles)],Ux 0 0 0 0,Yz t,Ux (t.fixed+t.perMile*s.miles+t.perTick*(s.fin-t.opn)) (chgF x r.visits r.typ q.1).1 (chgF x r.visits r.typ q.1).2 ((s.fin-t.opn).tdiv 64*(s.fin-t.opn).tdiv 64),.map (q.2.map eII)])
  (fun q=>q.1<=r.visits.length/\ ∀n,Kz q.2 n=EZ r.visits q.1 n) (fun q=>r.visits.length-q.1) (0,[]) ⟨Zb,fun n=>rfl⟩ (Weak.mk ?_) ?_
 ·simp (disch:=omega) only [Zh,ZA,Yz,Ux,chgF,go_sem,seval]
 ·rintro ⟨k,m⟩ ⟨hk,hmg⟩;simp only at hk hmg;have hch:=BH (x:=x) (l:=r.visits) (t:=r.typ) k;simp (disch:=omega) only [Zh,ZA,Yz,Ux,go_sem,seval];refine cD ?_ ?_<;>intro h1<;>simp (disch:=omega) only [Sh.out h1,go_sem,seval,↓reduceIte]
  ·have hk2:k<r.visits.length:=Za
   obtain ⟨v1,v2⟩:=hv _ (Zo hk2)
   have e3: ¬(nth r.visits k).order<0:=Za
   have e4: ¬(x.orders.length:Int)<=(nth r.visits k).order:=Za
   have v3:(nth r.visits k).order.toNat<x.orders.length:=Za
   have hcs:=S8 hk2;have hcr:=eU hk (nth r.visits k).order;have hfi:=OJ (l:=r.visits) (k:=k);have hch2:chgF x r.visits r.typ (k+1)=_:=chgF.eq_2 x r.visits r.typ k;refine M4 hT rfl ?_;rw [hmg];refine Zc ?_;refine jD hT rfl fun m' hm'=> ?_
   have hmg': ∀n,Kz m' n=EZ r.visits (k+1) n:=fun n=>by grind
   simp (disch:=omega) only [e3,e4,XE,Xe,go_sem,seval];refine M4 hT rfl ?_;rw [hm',if_pos rfl];refine Zc ?_;refine ZI ?_ ?_<;>intro h2
   ·have h3: ¬Uf r.visits k=true:=by grind
    rw [if_neg h3] at hch2;exact ⟨(k+1,m'),⟨Za,hmg'⟩,Za,Weak.mk (by simp (disch:=omega) only [hch2,go_sem,seval])⟩
   ·have h3:Uf r.visits k=true:=by grind
    rw [if_pos h3] at hch2;refine (Bk (nth x.orders (nth r.visits k).order.toNat).now r.typ).use (Zc ?_);refine cD ?_ ?_<;>intro h4<;>simp (disch:=omega) only [Sh.out h4,go_sem,seval,↓reduceIte]
    ·rw [if_pos h4] at hch2;refine (Bk (nth x.orders (nth r.visits k).order.toNat).last r.typ).use (Zc ?_);refine ZI ?_ ?_<;>intro h5
     ·rw [if_pos h5] at hch2;exact ⟨(k+1,m'),⟨Za,hmg'⟩,Za,Weak.mk (by simp (disch:=omega) only [hch2,go_sem,seval])⟩
     ·rw [if_neg (by rw [h5];simp)] at hch2;exact ⟨(k+1,m'),⟨Za,hmg'⟩,Za,Weak.mk (by simp (disch:=omega) only [hch2,Vz,go_sem,seval])⟩
    ·rw [if_neg (by rw [h4];simp)] at hch2;refine (Bk (nth x.orders (nth r.visits k).order.toNat).last r.typ).use (Zc ?_);refine ZI ?_ ?_<;>intro h5
     ·rw [if_pos h5] at hch2;exact ⟨(k+1,m'),⟨Za,hmg'⟩,Za,Weak.mk (by simp (disch:=omega) only [hch2,Vz,go_sem,seval])⟩
     ·rw [if_neg (by rw [h5];simp)] at hch2;exact ⟨(k+1,m'),⟨Za,hmg'⟩,Za,Weak.mk (by simp (disch:=omega) only [hch2,Vz,go_sem,seval])⟩
  grind
end Go.Proofs.YtiigdaohjanidaaGreatDoor.K
namespace Go.Proofs.YtiigdaohjanidaaGreatDoor.K
open Go Go.AM Go.Proofs
set_option maxRecDepth 8000
set_option maxHeartbeats 8000000
@[go_sem] theorem ZeO {f:FuncId} :(PV.fn f).cells= [.fn f]:=Zl rfl rfl
def Zdz : AM.Obj:= .cells [.p (.bool false),.p (.int .i64 0),.p (.list true []),.p (.int .i64 0),.p (.int .i64 0)]
theorem E0 (x:Inst) (r:Rte) (hx:InstOk x) (hl:r.visits.length<=1048576) (hrl:r.rests.length<=1048576):ACalls Tryz.prog 164 [.p (ZE x),.p (Z0 r)] [] fun y H'=>y=Ko x r/\H'= []:=by
 have hld:=Qb hx;have htl:=hld.typ;have hol:=hld.ord;have chk:=kK x r hx hl
 have htb:x.types.length<=6:=by have:=hx.types.1;simp only [rng,Zp] at this;omega
 refine Zf [] Tryz.func164 rfl Za1 ?_;simp (disch:=omega) only [Tryz.f164,go_sem,seval];refine gF ?_ ?_<;>intro h1<;>simp (disch:=omega) only [Sh.out h1,go_sem,seval,↓reduceIte]
 ·have e:Yf x r=2:=by rw [Yf,if_pos Za]
  rw [YB (e:=2) (by rw [evalE,e];rfl) Za];exact we (by simp (disch:=omega) only [zShe,zSco,Zn,go_sem,seval])
 ·refine cD ?_ ?_<;>intro h2<;>simp (disch:=omega) only [Sh.out h2,go_sem,seval,↓reduceIte]
  ·have e:Yf x r=2:=by simp_all [Yf]
   rw [YB (e:=2) (by rw [evalE,e];rfl) Za];exact we (by simp (disch:=omega) only [zShe,zSco,Zn,go_sem,seval])
  ·have hty:0<=r.typ/\r.typ<(x.types.length:Int):=Za
   have hti:r.typ.toNat<x.types.length:=Za
   have hnum:=U0 hx hti;have htyp:nth x.types r.typ.toNat=ZN x r:=rfl;rw [htyp] at hnum
   have hsk: ∀o∈x.orders,o.skills<9223372036854775808:=fun o hm=>by
    obtain ⟨i,hi,rfl⟩:=ZU.1 hm;have:=(hx.orders.2 i hi).skills
    grind [Zi]
   refine Zk [2,3,4,5,25,26] (fun k:Nat=> [(27,.p (.int .i64 k))]) (fun _=> [Zh x,ZA r,Zdz,Ux 0 0 0 0,.elems 1 [.fn 218,.fn 219,.fn 220]])
    (fun k=>k<=3/\(0<k->Xw x r.visits=0)/\(1<k-> ¬(r.visits.any fun v=> !WK (ZN x r) (nth x.orders v.order.toNat).skills)=true)/\(2<k->UT x (ZN x r).cap r.visits=true)) (fun k=>3-k) 0 ⟨Za,Za,Za,Za⟩ (Weak.mk ?_) ?_
   ·simp (disch:=omega) only [Zh,ZA,Ux,Zdz,go_sem,seval]
   ·rintro k ⟨hk,k1,k2,k3⟩;simp (disch:=omega) only [Zh,ZA,Ux,Zdz,go_sem,seval];refine cD ?_ ?_<;>intro h3<;>simp (disch:=omega) only [Sh.out h3,go_sem,seval,↓reduceIte]
    ·by_cases hk0:k=0
     ·subst hk0;have he:Ut [PV.fn 218,PV.fn 219,PV.fn 220] 0=PV.fn 218:=rfl;simp (disch:=first | omega | (simp only [Zw,Zz,ZG,ZK,ZQ,Z4]<;>omega)) only [he,go_sem,seval,↓reduceIte];refine (chk).use (Zc ?_);refine ZI ?_ ?_<;>intro h4
      ·have e:Yf x r=Xw x r.visits:=by simp_all [Yf]
       rw [YB (e:=Xw x r.visits) (by simp_all [evalE]) h4];exact we (by simp (disch:=omega) only [zShe,zSco,Zn,go_sem,seval])
      ·exact ⟨1,⟨Za,fun _=>Za,Za,Za⟩,Za,wk⟩
     ·have h0:=k1 Za;have hsq:=W4 h0
      have hr0:Yf x r=if (r.visits.any fun v=> !WK (ZN x r) (nth x.orders v.order.toNat).skills)=true then 18 else if UT x (ZN x r).cap r.visits=false then 17 else if ¬(0<=r.start/\r.start<=4096/\r.rests.length<=r.visits.length+1) then 2 else 0:=by
       rw [Yf,if_neg (fun h=>h hty),if_neg Za]
      by_cases hk1:k=1
      ·subst hk1;have he:Ut [PV.fn 218,PV.fn 219,PV.fn 220] 1=PV.fn 219:=rfl;simp (disch:=first | omega | (simp only [Zw,Zz,ZG,ZK,ZQ,Z4]<;>omega)) only [he,go_sem,seval,↓reduceIte];refine (kI x r hty (fun v hv=>by have:=hsq.inr v hv;grind [RB]) hl htl Za Za hsk).use (Zc ?_)
       by_cases h5:(r.visits.any fun v=> !WK (ZN x r) (nth x.orders v.order.toNat).skills)=true
       ·rw [if_pos h5] at hr0 ⊢;rw [YB (e:=18) (by rw [evalE,hr0];rfl) Za];refine Zc ?_;exact we (by simp (disch:=omega) only [zShe,zSco,Zn,go_sem,seval])
       ·rw [if_neg h5];refine Zc ?_;exact ⟨2,⟨Za,fun _=>h0,fun _=>h5,Za⟩,Za,wk⟩
      ·have hk2:k=2:=Za
       subst hk2;have he:Ut [PV.fn 218,PV.fn 219,PV.fn 220] 2=PV.fn 220:=rfl;simp (disch:=first | omega | (simp only [Zw,Zz,ZG,ZK,ZQ,Z4]<;>omega)) only [he,go_sem,seval,↓reduceIte];refine (kF x r hx hl hty h0).use (Zc ?_);rw [if_neg (k2 Za)] at hr0
       cases h5:UT x (ZN x r).cap r.visits with
       | false =>
        rw [if_pos h5] at hr0;rw [YB (e:=17) (by rw [evalE,hr0];rfl) Za];simp only [Yi,YA];refine Zc ?_;exact we (by simp (disch:=omega) only [zShe,zSco,Zn,go_sem,seval])
       | true =>
        simp only [if_true];refine Zc ?_;exact ⟨3,⟨Za,fun _=>h0,fun _=>k2 Za,fun _=>Zb⟩,Za,wk⟩
    ·have hk3:k=3:=Za
     subst hk3;have h0:=k1 Za;have hsq:=W4 h0
     have hr0:Yf x r=if ¬(0<=r.start/\r.start<=4096/\r.rests.length<=r.visits.length+1) then 2 else 0:=by
      rw [Yf,if_neg (fun h=>h hty),if_neg Za,if_neg (k2 Za),if_neg (by grind)]
     have cb:=rQ x r hx hl hrl hty h0;have hok:=Q8 hx hty hsq
     have hbr:QK x r=Xh x r->(Xh x r).2=0->(0<=r.start/\r.start<=4096/\r.rests.length<=r.visits.length+1)->(0<=(Xh x r).1.fin/\(Xh x r).1.fin<=8192)/\(0<=(Xh x r).1.miles/\(Xh x r).1.miles<=210000):=fun _ hz hs =>
      EV hok ⟨hs.1,hs.2.1⟩ (by grind [X4]) hz
     by_cases h6:0<=r.start/\r.start<=4096/\r.rests.length<=r.visits.length+1
     ·have e:Yf x r=0:=Za
      have ee:evalE x r=(Xh x r).2:=by rw [evalE,if_pos e]
      have eb:QK x r=Xh x r:=by rw [QK,if_pos h6]
      have hbr:=fun hz=>hbr eb hz h6;rw [eb] at cb
      have es:ZY x r=if (Xh x r).2=0 then (Xh x r).1 else zShe:=by rw [ZY,ee]
      have ep:XG x r=if (Xh x r).2=0 then Dt x r (Xh x r).1 else zSco:=by rw [XG,ee]
      unfold Ko;rw [ee,es,ep];clear ee es ep eb
      generalize Xh x r=q at *
      obtain ⟨sh,eb⟩:=q;simp only at cb hbr ⊢;refine Yd cb (Zc ?_);refine cD ?_ ?_<;>intro h7<;>simp (disch:=omega) only [Sh.out h7,go_sem,seval,↓reduceIte]
      ·exact we (by simp (disch:=omega) only [zShe,zSco,Zn,go_sem,seval])
      ·have h7':eb=0:=Za
       try rw [if_pos h7',if_pos h7']
       subst h7';obtain ⟨g1,g2⟩:=hbr rfl;refine ZV 5 mixed Ze Ze (Zc ?_);refine Zr (kJ x r sh hty Za htl hl hsq.inr hnum.2.2.2.1 Za Za Za) (Zc ?_);exact we
     ·have e:Yf x r=2:=Za
      have eb:QK x r=(zShe,2):=by rw [QK,if_neg h6]
      rw [YB (e:=2) (by rw [evalE,e];rfl) Za];rw [eb] at cb;refine Yd cb (Zc ?_);exact we (by simp (disch:=omega) only [zShe,zSco,Zn,go_sem,seval])
theorem kN (x:Inst) (r:Rte) (hx:InstOk x) (hl:r.visits.length<=1048576) (hrl:r.rests.length<=1048576):PC 112 [.p (ZE x),.p (Z0 r)] (.int .i64 (evalE x r)):=by
 have ce:=E0 x r hx hl hrl;refine Zd Tryz.func112 rfl Zal ?_;simp (disch:=omega) only [Tryz.f112,go_sem,seval];unfold Ko at ce;refine Gi ce ?_;simp (disch:=omega) only [go_sem,seval,↓reduceIte]
theorem X7 {x:Inst} {r:Rte} (h:evalE x r=0):Yf x r=0:=by
 grind [evalE]
theorem X3 {x:Inst} {r:Rte} (h:Yf x r=0):(0<=r.typ/\r.typ<(x.types.length:Int))/\Xw x r.visits=0/\(0<=r.start/\r.start<=4096/\r.rests.length<=r.visits.length+1):=by
 unfold Yf at h;omega
theorem MB {x:Inst} {r:Rte} (hx:InstOk x) (h:evalE x r=0):(0<=(ZY x r).fin/\(ZY x r).fin<=8192)/\(0<=(ZY x r).miles/\(ZY x r).miles<=210000):=by
 obtain ⟨hty,h0,hs⟩:=X3 (X7 h)
 have e:ZY x r=(Xh x r).1:=by rw [ZY,if_pos h]
 have ee:(Xh x r).2=0:=by rw [evalE,if_pos (X7 h)] at h;exact h
 rw [e];exact EV (Q8 hx hty (W4 h0)) ⟨hs.1,hs.2.1⟩ (by grind [X4]) ee
theorem C4 {x:Inst} {r:Rte} (hx:InstOk x) (hl:r.visits.length<=1048576) (h:evalE x r=0):Uk 1073741824 (XG x r):=by
 have hg:=MB hx h;obtain ⟨hty,_,_⟩:=X3 (X7 h);have hnum:=U0 hx (show r.typ.toNat<x.types.length by omega);have htyp:nth x.types r.typ.toNat=ZN x r:=rfl;rw [htyp] at hnum
 have e:(Xh x r).1=ZY x r:=by rw [ZY,if_pos h]
 have hch:=BH (x:=x) (l:=r.visits) (t:=r.typ) r.visits.length;rw [XG,if_pos h,e];unfold Dt Uk
 generalize ZY x r=s at *
 generalize ZN x r=t at *
 have p1:0<=t.perMile*s.miles/\t.perMile*s.miles<=100*210000:=⟨Uj Za Za,Vy Za Za Za Za⟩
 have hW: -8192<=s.fin-t.opn/\s.fin-t.opn<=8192:=Za
 have p2: -819200<=t.perTick*(s.fin-t.opn)/\t.perTick*(s.fin-t.opn)<=819200:=by
  generalize s.fin-t.opn=w at hW;have a1:=Bg hW.2 (show 0<=t.perTick by omega);have a2:=Bg hW.1 (show 0<=t.perTick by omega);omega
 have p3: -128<=(s.fin-t.opn).tdiv 64/\(s.fin-t.opn).tdiv 64<=128:=by
  grind
 have p4:0<=(s.fin-t.opn).tdiv 64*(s.fin-t.opn).tdiv 64/\(s.fin-t.opn).tdiv 64*(s.fin-t.opn).tdiv 64<=16384:=by
  generalize (s.fin-t.opn).tdiv 64=q at p3;refine ⟨?_,?_⟩
  ·rcases Au 0 q with h | h
   ·exact Uj h h
   ·exact Int.mul_nonneg_of_nonpos_of_nonpos h h
  ·rcases Au 0 q with h | h
   ·have:=Vy p3.2 p3.2 h Za;omega
   ·have h2:0<= -q:=Za
    have:=Vy (show-q<=128 by omega) (show-q<=128 by omega) h2 Za
    grind
 grind
def prcF (x:Inst) (r:Rte):Int×Int:=if evalE x r=0 then Xn (XG x r) else (0,evalE x r)
theorem mR (s:Sco):0<=(Xn s).1/\(Xn s).1<=36028797018963968:=by
 grind [Xn]
theorem Ns (x:Inst) (r:Rte):0<=(prcF x r).1/\(prcF x r).1<=36028797018963968:=by
 unfold prcF
 split
 ·exact mR _
 ·simp
theorem aP (x:Inst) (r:Rte) (hx:InstOk x) (hb:WH r):PT 237 [.p (ZE x),.p (Z0 r)] [.p (.int .i64 (prcF x r).1),.p (.int .i64 (prcF x r).2)]:=by
 have ce:=E0 x r hx hb.1 hb.2;refine Zf [] Tryz.func237 rfl ZbJ ?_;simp (disch:=omega) only [Tryz.f237,go_sem,seval];unfold Ko at ce;refine Gi ce (Zc ?_);refine cD ?_ ?_<;>intro h1<;>simp (disch:=omega) only [Sh.out h1,go_sem,seval,↓reduceIte]
 ·rw [prcF,if_neg h1];exact we
 ·have h0:evalE x r=0:=Za
  rw [prcF,if_pos h0];refine W1 (HH (XG x r) (YT Za (C4 hx hb.1 h0))) (Zc ?_);exact we
def Qq (a b:Col):Bool:=if a.price≠b.price then decide (a.price<b.price) else decide (M0 a.route.visits b.route.visits<0)
def CW (x:Inst) (S:Nat) (l:List Vis):List Vis:=nextU x S l x.orders.length
def KX (x:Inst) (S:Nat):Nat:=GP x S x.orders.length
theorem rE {x:Inst} {S:Nat} {l:List Vis} (h:Gr x S l) (hl:l.length=KX x S):CW x S l= []:=by
 cases e:CW x S l with
 | nil=>rfl
 | cons v r =>
  exfalso
  have hv:v∈nextU x S l x.orders.length:=by
   grind [CW]
  obtain ⟨i,hi,h1,h2,h3,h4⟩:=Kx.1 hv;exact ((JR h3).1 h4).1 (h.full hl v (Kw.2 ⟨i,hi,h1,h3⟩))
theorem H5 {ok:List Vis->Bool} {col:List Vis->Col} {better:Col->Col->Bool} : ∀ {L:List (List Vis)} {b:Col×Bool},(∀l∈L,ok l=false)->L.foldl (WB ok col better) b=b
 | [],_,_=>rfl
 | l::L,b,h=>by
  rw [Vb,WB,if_neg (by rw [h l Zb];simp)];exact H5 fun m hm=>h m (YQ _ hm)
theorem YD {x:Inst} {r:Rte} (h:evalE x r=0):RightV x r.visits:=by
 rw [<- aI]
 have h1:Yf x r=0:=by
  grind [evalE]
 unfold Yf at h1;omega
def Z3 (rs:List Rte) (i:Nat):Int:=(rs.countP fun r=>hasO r.visits (i:Int):Nat)
def Xx (us:List Int) (i:Nat):Int:=(us.countP fun u=>decide (u=(i:Int)):Nat)
def Wo (rs:List Rte) (i:Nat):Int:=(rs.countP fun r=>decide (r.typ=(i:Int)):Nat)
theorem C2 {rs:List Rte} {k:Nat} (h:k<rs.length) (i:Nat):Z3 (rs.take (k+1)) i=if hasO (nth rs k).visits (i:Int)=true then Z3 (rs.take k) i+1 else Z3 (rs.take k) i:=by
 grind [Z3,Xl,Zi]
theorem C3 {us:List Int} {k:Nat} (h:k<us.length) (i:Nat):Xx (us.take (k+1)) i=if nth us k=(i:Int) then Xx (us.take k) i+1 else Xx (us.take k) i:=by
 grind [Xx,Xl,Zi]
theorem G7 {rs:List Rte} {k:Nat} (h:k<rs.length) (i:Nat):Wo (rs.take (k+1)) i=if (nth rs k).typ=(i:Int) then Wo (rs.take k) i+1 else Wo (rs.take k) i:=by
 grind [Wo,Xl,Zi]
theorem BK {rs:List Rte} {k:Nat} (i:Nat):0<=Z3 (rs.take k) i/\Z3 (rs.take k) i<=rs.length:=by
 grind [ZQ,Z3]
theorem BL {us:List Int} {k:Nat} (i:Nat):0<=Xx (us.take k) i/\Xx (us.take k) i<=us.length:=by
 grind [ZQ,Xx]
theorem Mm {rs:List Rte} {k:Nat} (i:Nat):0<=Wo (rs.take k) i/\Wo (rs.take k) i<=rs.length:=by
 grind [ZQ,Wo]
def Xq (f:Nat->Int) (n:Nat):List Int:=(List.range n).map f
theorem CD {f n} :(Xq f n).length=n:=by simp [Xq]
theorem Uc {f n j} (h:j<n):nth (Xq f n) j=f j:=QW h
theorem KO {f n j v} :(Xq f n).set j v=Xq (fun i=>if i=j then v else f i) n:=by
 apply Qe (by simp [Xq]);intro i h1 h2;rw [List.getElem_set];simp [Xq];omega
theorem VZ {f g:Nat->Int} {n:Nat} (h: ∀i,i<n->f i=g i):Xq f n=Xq g n:=YH fun i hi=>h i (ZP.1 hi)
theorem Rb {x:Inst} {l:List Vis} (hi:Inr x l) (i:Nat) (h:i<=62):(((ordS l:Nat):Int).fdiv (2^i))%2=if hasO l (i:Int)=true then 1 else 0:=by
 have h1:sHas ((ordS l:Nat):Int) (i:Int)=hasO l (i:Int):=by
  rw [UX _ _ h,Yj,YS,Z6]
  constructor
  ·rintro ⟨v,hv,e⟩;exact ⟨v,hv,by have:=hi v hv;omega⟩
  grind
 rw [<- h1];unfold sHas
 grind
theorem Wz {P Q:Prop} (h:Q) (e:Q->P:=by intro h;simp (disch:=omega) only [Zh,Zu,go_sem,seval];exact h):P:=e h
theorem Hc (x:Inst) (p:Pln) (htl:x.types.length<=1048576) (hr:p.routes.length<=1048576) (hty: ∀r∈p.routes,0<=r.typ/\r.typ<(x.types.length:Int)) :
  PC 116 [.p (ZE x),.p (Wh p)] (.bool ((List.range x.types.length).any fun t=>decide ((nth x.types t).count<Wo p.routes t))):=by
 refine Zd Tryz.func116 rfl Zap ?_;simp (disch:=omega) only [Tryz.f116,go_sem,seval]
 have hz:List.replicate x.types.length (PV.int .i64 0)=(Xq (Wo (p.routes.take 0)) x.types.length).map eI:=by
  rw [VZ (g:=fun _=>0) (fun i _=>by simp [Wo]),Xq,JE];rw [show (eI∘fun _:Nat=>(0:Int))=fun _=>PV.int .i64 0 from rfl,List.map_const',List.length_range]
 have hrl: ∀f,(Xq f x.types.length).length=x.types.length:=fun f=>CD;refine Zk [2,5,15,16] (fun k:Nat=> [(17,.p (.int .i64 k))]) (fun k=> [Zh x,Zu p,.elems 1 ((Xq (Wo (p.routes.take k)) x.types.length).map eI)]) (fun k=>k<=p.routes.length) (fun k=>p.routes.length-k) 0 Zb (Weak.mk ?_) ?_
 ·simp (disch:=omega) only [Zh,Zu,hz,go_sem,seval]
 ·intro k hk;refine Wz ?_;refine cD ?_ ?_<;>intro h1<;>simp (disch:=omega) only [Sh.out h1,go_sem,seval,↓reduceIte]
  ·have hk2:k<p.routes.length:=Za
   obtain ⟨t1,t2⟩:=hty _ (ZF hk2)
   have hti:(nth p.routes k).typ.toNat<x.types.length:=Za
   have hsu:=G7 hk2;have hrg:=Mm (rs:=p.routes) (k:=k)
   have hnx:(Xq (Wo (p.routes.take k)) x.types.length).set (nth p.routes k).typ.toNat (Wo (p.routes.take k) (nth p.routes k).typ.toNat+1)=Xq (Wo (p.routes.take (k+1))) x.types.length:=by
    rw [KO];refine VZ fun i _=> ?_
    grind
   have hrr:=hrl (Wo (p.routes.take k));have hg:=hrg (nth p.routes k).typ.toNat;have hnt:nth (Xq (Wo (p.routes.take k)) x.types.length) (nth p.routes k).typ.toNat=Wo (p.routes.take k) (nth p.routes k).typ.toNat:=Uc hti
   have he:Ut ((Xq (Wo (p.routes.take k)) x.types.length).map eI) (nth p.routes k).typ.toNat= .int .i64 (Wo (p.routes.take k) (nth p.routes k).typ.toNat):=by rw [YC Za,hnt];rfl
   generalize Wo (p.routes.take k) (nth p.routes k).typ.toNat=c at *
   generalize Xq (Wo (p.routes.take k)) x.types.length=R at *
   have hset:(R.map eI).set (nth p.routes k).typ.toNat (.int .i64 (c+1))=(Xq (Wo (p.routes.take (k+1))) x.types.length).map eI:=by rw [<- hnx,Vc];rfl
   simp (disch:=first | omega | (simp only [Zw,Zz,ZG,ZK,ZQ,Z4]<;>omega)) only [he,hrr,hti,eq_self,VY,go_sem,seval];exact ⟨k+1,Za,Za,Weak.mk (by simp (disch:=omega) only [hset,go_sem,seval])⟩
  ·have hkl:k=p.routes.length:=Za
   subst hkl;rw [Xi];have hrr:=hrl (Wo p.routes);have hnt: ∀j,j<x.types.length->nth (Xq (Wo p.routes) x.types.length) j=Wo p.routes j:=fun j hj=>Uc hj
   generalize Xq (Wo p.routes) x.types.length=R at *
   simp (disch:=first | omega | (simp only [Zw,Zz,ZG,ZK,ZQ,Z4]<;>omega)) only [hrr,eq_self,go_sem,seval,↓reduceIte];refine Zk [2,29,30] (fun k:Nat=> [(31,.p (.int .i64 k))]) (fun _=> [Zh x,Zu p,.elems 1 (R.map eI)]) (fun k=>k<=x.types.length/\ ∀j,j<k->decide ((nth x.types j).count<Wo p.routes j)=false) (fun k=>x.types.length-k) 0 Zb (Weak.mk ?_) ?_
   ·simp (disch:=omega) only [Zh,Zu,go_sem,seval]
   ·rintro k ⟨hk,hno⟩;refine Wz ?_;refine cD ?_ ?_<;>intro h2<;>simp (disch:=omega) only [Sh.out h2,go_sem,seval,↓reduceIte]
    ·have hk2:k<x.types.length:=Za
     have he:Ut (R.map eI) k= .int .i64 (Wo p.routes k):=by rw [YC Za,hnt k hk2];rfl
     simp (disch:=first | omega | (simp only [Zw,Zz,ZG,ZK,ZQ,Z4]<;>omega)) only [he,hrr,hk2,eq_self,VY,go_sem,seval,↓reduceIte];refine ZI ?_ ?_<;>intro h3
     ·grind
     ·exact ⟨k+1,⟨Za,Zm.2 ⟨hno,by grind⟩⟩,Za,wk⟩
    grind
end Go.Proofs.YtiigdaohjanidaaGreatDoor.K
