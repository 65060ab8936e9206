/- Declarations that the closing texts need, part 20: joined by tools/slim.py. -/
import Derived.Test.YtiigdaohjanidaaGreatDoorS19
set_option linter.unusedVariables false
set_option linter.unusedSimpArgs false
namespace Go.Proofs.YtiigdaohjanidaaGreatDoor.K
open Go Go.AM Go.Proofs
set_option maxRecDepth 8000
set_option maxHeartbeats 8000000
def U8 (l:List Pt) (t:Int) (i:Nat):Bool:=decide ((nth l i).t<=t)&&decide (t<(nth l (i+1)).t)
def Fv (p q:Pt) (t:Int):Int:=p.a+((t-p.t)*(q.a-p.a)+q.t-p.t-1) / (q.t-p.t)
def QH (l:List Pt) (t:Int):Int:=match (List.range (l.length-1)).find? (U8 l t) with
 | some i=>Fv (nth l i) (nth l (i+1)) t
 | none=>if (nth l 0).t<t then t+(nth l (l.length-1)).a-(nth l (l.length-1)).t else t+(nth l 0).a-(nth l 0).t
theorem GZ {l:List Pt} {t:Int} {i:Nat} (hi:i+1<l.length) (hno: ∀j,j<i->U8 l t j=false) (h:U8 l t i=true):QH l t=Fv (nth l i) (nth l (i+1)) t:=by
 have:(List.range (l.length-1)).find? (U8 l t)=some i:=by
  grind [List.find?_eq_some_iff_getElem]
 rw [QH,this]
theorem CS {l:List Pt} {t:Int} (hno: ∀j,j+1<l.length->U8 l t j=false):QH l t=if (nth l 0).t<t then t+(nth l (l.length-1)).a-(nth l (l.length-1)).t else t+(nth l 0).a-(nth l 0).t:=by
 grind [QH]
theorem EF {p q:Pt} {t:Int} (h1:p.t<=t) (h2:t<q.t) (hp:0<=p.t) (hq:q.t<=4096) (ha:p.a<=q.a) (hpa:0<=p.a) (hqa:q.a<=8192):0<=(t-p.t)*(q.a-p.a)/\(t-p.t)*(q.a-p.a)<=33554432:=by
 refine ⟨VL Za Za,?_⟩;have:(t-p.t)*(q.a-p.a)<=4096*8192:=Vm Za Za Za Za;omega
theorem MB (l:List Pt) (c:Bool) (t:Int) (hl:Ww l) (ht:0<=t/\t<=1073741824):PC 324 [.p (.list c (l.map FS)),.p (.int .i64 t)] (.int .i64 (QH l t)):=by
 obtain ⟨⟨hl1,hl2⟩,hpt⟩:=hl;refine Zd Tryz.func324 rfl Zaa ?_;simp (disch:=omega) only [Tryz.f324,go_sem,seval];refine ((TN l c Za).frozenE).useV fun m hm=>Zc ?_
 have hm0:m.length=0:=by rw [hm.emp.2 ⟨⟨hl1,hl2⟩,hpt⟩];rfl
 have e1: ¬t<0:=Za
 have e2: ¬ 1073741824<t:=Za
 simp (disch:=omega) only [hm0,e1,e2,go_sem,seval];refine Zl [0,1] (fun k:Nat=> [(5,.p (.int .i64 k))]) (fun _=> []) (fun k=>k<l.length/\ ∀j,j<k->U8 l t j=false) (fun k=>l.length-k) 0 (by simp;omega) (Weak.mk ?_) ?_
 ·simp (disch:=omega) only [go_sem,seval,↓reduceIte]
 ·rintro k ⟨hk,hno⟩;refine Zc ?_;refine cD ?_ ?_<;>intro h<;>simp (disch:=omega) only [Sh.out h,go_sem,seval,↓reduceIte]
  ·have hk2:k+1<l.length:=Za
   obtain ⟨⟨p1,p2,p3,p4⟩,_⟩:=hpt k hk;obtain ⟨⟨q1,q2,q3,q4⟩,q5⟩:=hpt (k+1) hk2;obtain ⟨r1,r2⟩:=q5 Za;rw [Nat.add_sub_cancel] at r1 r2;refine gT ?_ ?_<;>intro h2<;>simp (disch:=omega) only [Sh.out h2,go_sem,seval,↓reduceIte]
   ·refine cD ?_ ?_<;>intro h3<;>simp (disch:=omega) only [Sh.out h3,go_sem,seval,↓reduceIte]
    ·have hsg:U8 l t k=true:=by simp [U8,h2,h3]
     rw [GZ hk2 hno hsg];obtain ⟨s1,s2⟩:=EF h2 h3 p1 q2 r2 Za Za;have d1:0<=((t-(nth l k).t)*((nth l (k+1)).a-(nth l k).a)+(nth l (k+1)).t-(nth l k).t-1) / ((nth l (k+1)).t-(nth l k).t):=Int.ediv_nonneg Za Za;have d2:((t-(nth l k).t)*((nth l (k+1)).a-(nth l k).a)+(nth l (k+1)).t-(nth l k).t-1) / ((nth l (k+1)).t-(nth l k).t)<=33558528:=Int.le_trans (Int.ediv_le_self _ Za) Za
     have d3: ¬(nth l (k+1)).t-(nth l k).t=0:=Za
     simp only [Fv];refine Xn ?_;simp (disch:=omega) only [go_sem,seval,↓reduceIte]
    ·have hsg:U8 l t k=false:=by simp [U8,h3]
     exact ⟨k+1,⟨Za,Zn.2 ⟨hno,hsg⟩⟩,Za,wk⟩
   ·have hsg:U8 l t k=false:=by simp [U8,h2]
    exact ⟨k+1,⟨Za,Zn.2 ⟨hno,hsg⟩⟩,Za,wk⟩
  ·have hkl:k+1=l.length:=Za
   rw [CS (fun j hj=>hno j Za)];obtain ⟨⟨p1,p2,p3,p4⟩,_⟩:=hpt 0 Za;obtain ⟨⟨q1,q2,q3,q4⟩,_⟩:=hpt (l.length-1) Za
   have i1:((l.length:Int)-1).toNat=l.length-1:=Za
   refine cD ?_ ?_<;>intro h2<;>simp (disch:=omega) only [Sh.out h2,go_sem,seval,↓reduceIte]
theorem ZH {α:Type} [Inhabited α] {l:List α} {i:Nat} (h:i<l.length):nth l i∈l:=by grind [Zh]
def iK (a:Arc):Prop:=Ww a.travel/\a.slow.length<=16/\ ∀p∈a.slow,0<=p.t/\p.t<=4096/\0<=p.a/\p.a<=4096
def Jj (l:List Pt) (t:Int) (k:Nat):Int:=(l.take k).foldl (fun s p=>if p.t<=t then s+p.a else s) 0
def GY (a:Arc) (t:Int):Int:=QH a.travel t+Jj a.slow t a.slow.length
theorem Ak {l:List Pt} {t:Int} {k:Nat} (h:k<l.length):Jj l t (k+1)=if (nth l k).t<=t then Jj l t k+(nth l k).a else Jj l t k:=by
 grind [Jj,Xw,Zh]
theorem Qs {l:List Pt} {t:Int} (hl: ∀p∈l,0<=p.a/\p.a<=4096): ∀k,k<=l.length->0<=Jj l t k/\Jj l t k<=4096*k
 | 0,_=>by simp [Jj]
 | k+1,h=>by
  have ih:=Qs (t:=t) hl k Za
  grind [ZH,Ak]
theorem Dy {l:List Pt} {t:Int} (hl:Ww l) (ht:0<=t/\t<=1073741824):0<=QH l t/\QH l t<=1107304448:=by
 obtain ⟨⟨hl1,hl2⟩,hpt⟩:=hl;unfold QH
 split
 ·rename_i i hi;have hm:=QX hi;have hs:=Uz hi;simp at hm;simp only [U8,Zy,Zp] at hs;obtain ⟨⟨p1,p2,p3,p4⟩,_⟩:=hpt i Za;obtain ⟨⟨q1,q2,q3,q4⟩,q5⟩:=hpt (i+1) Za;obtain ⟨r1,r2⟩:=q5 Za;rw [Nat.add_sub_cancel] at r1 r2;obtain ⟨s1,s2⟩:=EF hs.1 hs.2 p1 q2 r2 Za Za;have d1:0<=((t-(nth l i).t)*((nth l (i+1)).a-(nth l i).a)+(nth l (i+1)).t-(nth l i).t-1) / ((nth l (i+1)).t-(nth l i).t):=Int.ediv_nonneg Za Za;have d2:((t-(nth l i).t)*((nth l (i+1)).a-(nth l i).a)+(nth l (i+1)).t-(nth l i).t-1) / ((nth l (i+1)).t-(nth l i).t)<=33558528:=Int.le_trans (Int.ediv_le_self _ Za) Za
  unfold Fv;omega
 ·obtain ⟨⟨p1,p2,p3,p4⟩,_⟩:=hpt 0 Za;obtain ⟨⟨q1,q2,q3,q4⟩,_⟩:=hpt (l.length-1) Za;omega
theorem MC (a:Arc) (t:Int) (ha:iK a) (ht:0<=t/\t<=1073741824):PC 320 [.p (Wp a),.p (.int .i64 t)] (.int .i64 (GY a t)):=by
 obtain ⟨h1,h2,h3⟩:=ha;have hr:=Dy h1 ht;have hs:=Qs (t:=t) (fun p hp=>(h3 p hp).2.2);refine Zd Tryz.func320 rfl zW ?_;simp (disch:=omega) only [Tryz.f320,go_sem,seval];refine (MB a.travel a.travel_c t h1 ht).use (Zc ?_);refine Zl [1,2] (fun k:Nat=> [(5,.p (.int .i64 (QH a.travel t+Jj a.slow t k))),(6,.p (.int .i64 k))]) (fun _=> [WC a]) (fun k=>k<=a.slow.length) (fun k=>a.slow.length-k) 0 Zb (Weak.mk ?_) ?_
 ·simp (disch:=omega) only [WC,Jj,UB,go_sem,seval];simp
 ·intro k hk;have hsk:=hs k hk;simp (disch:=omega) only [WC,go_sem,seval];refine cD ?_ ?_<;>intro h<;>simp (disch:=omega) only [Sh.out h,go_sem,seval,↓reduceIte]
  ·have hk2:k<a.slow.length:=Za
   have hp:=h3 _ (ZH hk2);have hsn:=Ak (t:=t) hk2;refine ZD ?_ ?_<;>intro h4
   ·rw [if_pos h4] at hsn;exact ⟨k+1,Za,Za,Weak.mk (by simp (disch:=omega) only [hsn,Int.add_assoc,go_sem,seval])⟩
   ·rw [if_neg h4] at hsn;exact ⟨k+1,Za,Za,Weak.mk (by simp (disch:=omega) only [hsn,go_sem,seval])⟩
  grind [GY]
theorem Mh {g:FuncId} {args:List V} {a b c:PV} {H:List AM.Obj} {K:V->List AM.Obj->Prop} (h:ACalls Tryz.prog g args [] fun x H'=>x= .tup [.p a,.p b,.p c]/\H'= []) (k:K (.tup [.p a,.p b,.p c]) H) (ha:Xe 0 args=true:=by rfl):ACalls Tryz.prog g args H K :=
 (h.behind ha H).mono fun x H' hq=>by
  obtain ⟨y,H1,⟨rfl,rfl⟩,rfl,rfl⟩:=hq
  grind [shV,shVs]
theorem X4 {g:FuncId} {args:List V} {a b:PV} {H:List AM.Obj} {K:V->List AM.Obj->Prop} (h:ACalls Tryz.prog g args [] fun x H'=>x= .tup [.p a,.p b]/\H'= []) (k:K (.tup [.p a,.p b]) H) (ha:Xe 0 args=true:=by rfl):ACalls Tryz.prog g args H K :=
 (h.behind ha H).mono fun x H' hq=>by
  obtain ⟨y,H1,⟨rfl,rfl⟩,rfl,rfl⟩:=hq
  grind [shV,shVs]
def JP (n:Net) (p:Int):Bool:=decide (0<=p)&&decide (p<(n.places.length:Int))
theorem Gn (n:Net) (p:Int) (hn:n.places.length<=1048576):PC 318 [.p (AJ n),.p (.int .i64 p)] (.bool (JP n p)):=by
 refine Zd Tryz.func318 rfl zU ?_;simp (disch:=omega) only [Tryz.f318,go_sem,seval];refine gT ?_ ?_<;>intro h<;>simp (disch:=omega) only [Sh.out h,go_sem,seval,↓reduceIte]
 ·simp [JP,h]
 ·simp [JP,h]
def WX (pr f t:Int) (a:Arc):Bool:=decide (a.src=f)&&decide (a.dst=t)&&decide (a.prof=pr)
def Vv : Arc:=⟨0,0,0,0,true,[],true,[]⟩
def Wf (n:Net) (pr f t:Int):Arc×Bool:=match n.arcs.find? (WX pr f t) with | some a=>(a,true) | none=>(Vv,false)
theorem I1 {n:Net} {pr f t:Int} {k:Nat} (hk:k<n.arcs.length) (hno: ∀j,j<k->WX pr f t (nth n.arcs j)=false) (h:WX pr f t (nth n.arcs k)=true):Wf n pr f t=(nth n.arcs k,true):=by
 have:n.arcs.find? (WX pr f t)=some (nth n.arcs k):=by
  grind [List.find?_eq_some_iff_getElem,Zh]
 rw [Wf,this]
theorem I2 {n:Net} {pr f t:Int} (hno: ∀j,j<n.arcs.length->WX pr f t (nth n.arcs j)=false):Wf n pr f t=(Vv,false):=by
 have:n.arcs.find? (WX pr f t)=none:=by
  rw [A6];intro a ha;obtain ⟨j,hj,rfl⟩:=ZW.1 ha
  grind [Zh]
 rw [Wf,this]
theorem aF (n:Net) (pr f t:Int) (hn:n.arcs.length<=1048576):PT 319 [.p (AJ n),.p (.int .i64 pr),.p (.int .i64 f),.p (.int .i64 t)] [.p (Wp (Wf n pr f t).1),.p (.bool (Wf n pr f t).2)]:=by
 refine Zg [] Tryz.func319 rfl zV ?_;simp (disch:=omega) only [Tryz.f319,go_sem,seval];refine Zl [1,2,3,4,8] (fun k:Nat=> [(10,.p (.int .i64 k))]) (fun _=>ZZ n++ [WC Vv]) (fun k=>k<=n.arcs.length/\ ∀j,j<k->WX pr f t (nth n.arcs j)=false) (fun k=>n.arcs.length-k) 0 Zb (Weak.mk ?_) ?_
 ·simp (disch:=omega) only [ZZ,WC,Vv,Zm,ZQ,ZG,go_sem,seval]
 ·rintro k ⟨hk,hno⟩;simp (disch:=omega) only [ZZ,WC,Vv,Zm,ZQ,ZG,go_sem,seval];refine cD ?_ ?_<;>intro h<;>simp (disch:=omega) only [Sh.out h,go_sem,seval,↓reduceIte]
  ·have hk2:k<n.arcs.length:=Za
   have nx:WX pr f t (nth n.arcs k)=false-> ∀j,j<k+1->WX pr f t (nth n.arcs j)=false:=fun h=>Zn.2 ⟨hno,h⟩;refine K6 ?_ ?_<;>intro h1
   ·refine K6 ?_ ?_<;>intro h2
    ·refine ZD ?_ ?_<;>intro h3
     ·have e:=I1 hk2 hno (by grind [WX]);rw [e];exact we
     ·exact ⟨k+1,⟨Za,nx (by simp [WX,h3])⟩,Za,wk⟩
    ·exact ⟨k+1,⟨Za,nx (by simp [WX,h2])⟩,Za,wk⟩
   ·exact ⟨k+1,⟨Za,nx (by simp [WX,h1])⟩,Za,wk⟩
  ·have hkn:k=n.arcs.length:=Za
   subst hkn;rw [I2 hno];exact we (by simp (disch:=omega) only [Vv,Zm,go_sem,seval])
def V2 (n:Net) (pr f t τ:Int):Int×Int×Int :=
 if (JP n f&&JP n t)=false then (0,0,11) else if f=t then (τ,0,0) else if (Wf n pr f t).2=true then (GY (Wf n pr f t).1 τ,(Wf n pr f t).1.miles,0) else (0,0,12)
def netR (n:Net):Prop:=n.places.length<=1048576/\n.arcs.length<=1048576/\ ∀a∈n.arcs,iK a
theorem Kg {n:Net} {pr f t:Int} (h:(Wf n pr f t).2=true):(Wf n pr f t).1∈n.arcs:=by
 grind [Wf]
theorem uG (n:Net) (pr f t τ:Int) (hn:netR n) (hτ:0<=τ/\τ<=1073741824):PT 307 [.p (AJ n),.p (.int .i64 pr),.p (.int .i64 f),.p (.int .i64 t),.p (.int .i64 τ)] [.p (.int .i64 (V2 n pr f t τ).1),.p (.int .i64 (V2 n pr f t τ).2.1),.p (.int .i64 (V2 n pr f t τ).2.2)]:=by
 refine Zg [] Tryz.func307 rfl zJ ?_;simp (disch:=omega) only [Tryz.f307,go_sem,seval];refine (Gn n f hn.1).use (Zc ?_);refine gF ?_ ?_<;>intro h1<;>simp (disch:=omega) only [Sh.out h1,go_sem,seval,↓reduceIte]
 ·have e:V2 n pr f t τ=(0,0,11):=by grind [V2]
  rw [e];exact we
 ·simp only [XA] at h1;refine (Gn n t hn.1).use (Zc ?_);refine cD ?_ ?_<;>intro h2<;>simp (disch:=omega) only [Sh.out h2,go_sem,seval]
  ·have e:V2 n pr f t τ=(0,0,11):=by grind [V2]
   rw [e];exact we
  ·simp only [XA] at h2;refine cD ?_ ?_<;>intro h3<;>simp (disch:=omega) only [Sh.out h3,go_sem,seval,↓reduceIte]
   ·have e:V2 n pr f t τ=(τ,0,0):=by grind [V2]
    rw [e];exact we
   ·have cf:=aF n pr f t hn.2.1;have hm:= @Kg n pr f t
    have e0:V2 n pr f t τ=if (Wf n pr f t).2=true then (GY (Wf n pr f t).1 τ,(Wf n pr f t).1.miles,0) else (0,0,12):=by grind [V2]
    rw [e0];generalize Wf n pr f t=A at cf hm ⊢;obtain ⟨a,b⟩:=A;simp only at cf hm ⊢;refine X4 cf (Zc ?_);refine cD ?_ ?_<;>intro h4<;>simp (disch:=omega) only [Sh.out h4,go_sem,seval]
    ·have hb:b=false:=by grind
     subst hb;exact we (by simp (disch:=omega) only [go_sem,seval,↓reduceIte])
    ·have hb:b=true:=by grind
     subst hb;refine Xn (Zc ?_);refine Zq (MC a τ (hn.2.2 a (hm rfl)) hτ) (Zc ?_);exact we
theorem nT (x:Inst) (pr f t τ:Int) (hn:netR x.net) (hτ:0<=τ/\τ<=1073741824):PT 284 [.p (ZF x),.p (.int .i64 pr),.p (.int .i64 f),.p (.int .i64 t),.p (.int .i64 τ)] [.p (.int .i64 (V2 x.net pr f t τ).1),.p (.int .i64 (V2 x.net pr f t τ).2.1),.p (.bool (decide ((V2 x.net pr f t τ).2.2=0)))]:=by
 refine Zg [] Tryz.func284 rfl yN ?_;simp (disch:=omega) only [Tryz.f284,go_sem,seval];refine Mh (uG x.net pr f t τ hn hτ) (Zc ?_);exact we
structure StD where
 place:Int
 time:Int
 driven:Int
 miles:Int
def T7 (s:StD):PV:= .agg [.int .i64 s.place,.int .i64 s.time,.int .i64 s.driven,.int .i64 s.miles]
@[go_sem] theorem ZiO (s:StD):T7 s= .agg [.int .i64 s.place,.int .i64 s.time,.int .i64 s.driven,.int .i64 s.miles]:=Zk rfl rfl
def Et (t:Typ) (s:StD) (b:Bool):StD:=if b=true then { s with time:=s.time+t.rest,driven:=0 } else s
theorem LJ (t:Typ) (s:StD) (b:Bool) (hb: -1099511627776<=s.time/\s.time<=1099511627776/\ -1099511627776<=t.rest/\t.rest<=1099511627776):PC 249 [.p (Wq t),.p (T7 s),.p (.bool b)] (T7 (Et t s b)):=by
 refine Zd Tryz.func249 rfl xP ?_
 cases b with
 | true=>simp (disch:=omega) only [Tryz.f249,Et,go_sem,seval,↓reduceIte]
 | false=>simp (disch:=omega) only [Tryz.f249,Et,Yh,go_sem,seval,↓reduceIte]
def Qt (x:Inst) (t:Typ) (s:StD) (to cl late:Int):StD×Int :=
 if ¬(V2 x.net t.prof s.place to s.time).2.2=0 then (s,12)
 else if cl<(V2 x.net t.prof s.place to s.time).1 then (s,late)
 else if t.drive<s.driven+(V2 x.net t.prof s.place to s.time).1-s.time then (s,16)
 else (⟨to,(V2 x.net t.prof s.place to s.time).1,s.driven+(V2 x.net t.prof s.place to s.time).1-s.time,s.miles+(V2 x.net t.prof s.place to s.time).2.1⟩,0)
def SU (n:Int):Prop:= -1099511627776<=n/\n<=1099511627776
theorem Mb (x:Inst) (t:Typ) (s:StD) (to cl late:Int) (hn:netR x.net) (hs:0<=s.time/\s.time<=1073741824) (hd:SU s.driven) (hm:SU s.miles) (hg:SU (V2 x.net t.prof s.place to s.time).1/\SU (V2 x.net t.prof s.place to s.time).2.1) :
  PT 250 [.p (ZF x),.p (Wq t),.p (T7 s),.p (.int .i64 to),.p (.int .i64 cl),.p (.int .i64 late)] [.p (T7 (Qt x t s to cl late).1),.p (.int .i64 (Qt x t s to cl late).2)]:=by
 have cw:=nT x t.prof s.place to s.time hn hs;unfold Qt;generalize V2 x.net t.prof s.place to s.time=g at cw hg ⊢;obtain ⟨a,m,e⟩:=g;unfold SU at hd hm hg;simp only at cw hg ⊢;refine Zg [] Tryz.func250 rfl xQ ?_;simp (disch:=omega) only [Tryz.f250,go_sem,seval];refine Mh cw (Zc ?_);refine cD ?_ ?_<;>intro h1<;>simp (disch:=omega) only [Sh.out h1,go_sem,seval,↓reduceIte]
 ·exact we
 ·rw [if_neg h1];refine cD ?_ ?_<;>intro h2<;>simp (disch:=omega) only [Sh.out h2,go_sem,seval,↓reduceIte]
  ·exact we
  ·rw [if_neg h2];refine cD ?_ ?_<;>intro h3<;>simp (disch:=omega) only [Sh.out h3,go_sem,seval,↓reduceIte]
   ·exact we
   ·exact we
structure Lab where
 ready:Int
 since:Int
 she:She
 deriving Inhabited
def zShe : She:=⟨false,0,true,[],0,0⟩
def We : Lab:=⟨0,0,zShe⟩
def ZE (t:Typ) (L:Lab) (b:Bool):Int:=if b=true then L.ready+t.rest else L.ready
def Wy (L:Lab) (b:Bool):Int:=if b=true then 0 else L.since
def OQ (l:List Tim) (k:Nat) (d:Int) (b:Bool):List Tim:=l.set k { nth l k with dep:=d,rest:=b }
def XB (k:Nat) (d:Int) (b:Bool) (s:She):She:=if k=0 then { s with rest:=b,dep:=d } else { s with times:=OQ s.times (k-1) d b }
def Jo (t:Typ) (sp:List Stp) (k:Nat):Int:=if k=0 then t.src else (nth sp (k-1)).place
def SO (t:Typ) (sp:List Stp) (k:Nat):Int:=if k=sp.length then t.dst else (nth sp k).place
def YH (x:Inst) (t:Typ) (sp:List Stp) (k:Nat) (d:Int):Int×Int×Int:=V2 x.net t.prof (Jo t sp k) (SO t sp k) d
def Y9 (t:Typ) (sp:List Stp) (k:Nat) (g:Int×Int×Int) (d s:Int) (h:She):Lab×Int :=
 if ¬g.2.2=0 then (We,12)
 else if k=sp.length then
  if t.cls<g.1 then (We,15) else if t.drive<s+g.1-d then (We,16)
  else (⟨g.1,s+g.1-d,{ h with fin:=g.1,miles:=h.miles+g.2.1 }⟩,0)
 else if (nth sp k).cls<max g.1 (nth sp k).opn then (We,14)
 else if t.drive<s+g.1-d then (We,16)
 else (⟨max g.1 (nth sp k).opn+(nth sp k).serv,s+g.1-d,{ h with times_c:=false,times:=h.times++ [⟨g.1,max g.1 (nth sp k).opn,0,false⟩],miles:=h.miles+g.2.1 }⟩,0)
def XT (x:Inst) (t:Typ) (sp:List Stp) (k:Nat) (L:Lab) (b:Bool):Lab×Int :=
 Y9 t sp k (YH x t sp k (ZE t L b)) (ZE t L b) (Wy L b) (XB k (ZE t L b) b L.she)
def XL (x:Inst) (t:Typ) (sp:List Stp) (k:Nat) (L:Lab) (b:Bool):Option Lab:=if (XT x t sp k L b).2=0 then some (XT x t sp k L b).1 else none
def Xu (x:Inst) (t:Typ) (sp:List Stp):Nat->Lab->List Bool->Lab×Int
 | _,L,[]=>(L,0)
 | k,L,b::bs=>if (XT x t sp k L b).2=0 then Xu x t sp (k+1) (XT x t sp k L b).1 bs else (We,(XT x t sp k L b).2)
def Xy (t:Typ) (st:Int):Lab:=⟨max t.opn st,0,zShe⟩
theorem VF {x:Inst} {t:Typ} {sp:List Stp} : ∀(bs:List Bool) (k:Nat) (L:Lab),Va (XL x t sp) k L bs=if (Xu x t sp k L bs).2=0 then some (Xu x t sp k L bs).1 else none
 | [],k,L=>by rfl
 | b::bs,k,L=>by
  rw [Va,Xu,XL]
  by_cases h:(XT x t sp k L b).2=0
  ·simp only [h,if_true];exact VF bs (k+1) _
  ·simp [h]
structure TrpOk (x:Inst) (t:Typ) (sp:List Stp):Prop where
 net:netR x.net
 mil: ∀a∈x.net.arcs,0<=a.miles/\a.miles<=10000
 opn:0<=t.opn/\t.opn<=t.cls/\t.cls<=4096
 drv:1<=t.drive/\t.drive<=4096
 rst:0<=t.rest/\t.rest<=4096
 stp: ∀s∈sp,0<=s.opn/\s.opn<=s.cls/\s.cls<=4096/\0<=s.serv/\s.serv<=4096
 len:sp.length<=20
structure LabR (k:Nat) (L:Lab):Prop where
 rdy:0<=L.ready/\L.ready<=8192
 snc: -(12288*(k:Int))<=L.since/\L.since<=4096
 mil:0<=L.she.miles/\L.she.miles<=10000*(k:Int)
theorem kV {n:Net} {pr f t τ:Int} (hn:netR n) (hm: ∀a∈n.arcs,0<=a.miles/\a.miles<=10000) (hτ:0<=τ/\τ<=1073741824):(0<=(V2 n pr f t τ).1/\(V2 n pr f t τ).1<=1107369984)/\(0<=(V2 n pr f t τ).2.1/\(V2 n pr f t τ).2.1<=10000):=by
 unfold V2
 split
 ·simp
 ·split
  ·grind
  ·split
   ·rename_i h;have hA:=Kg h;have h1:=Dy (hn.2.2 _ hA).1 hτ;have h2:=Qs (t:=τ) (fun p hp=>((hn.2.2 _ hA).2.2 p hp).2.2) _ (Zx _);have h3:=(hn.2.2 _ hA).2.1
    grind [GY]
   ·simp
theorem Jv {x t sp k L} (h:TrpOk x t sp) (hl:LabR k L) (b:Bool):0<=ZE t L b/\ZE t L b<=12288:=by
 have:=h.rst;have:=hl.rdy
 grind [ZE]
theorem EL {k L} (hl:LabR k L) (b:Bool): -(12288*(k:Int))<=Wy L b/\Wy L b<=4096:=by
 have:=hl.snc
 grind [Wy]
theorem Hq {x t sp k L} (h:TrpOk x t sp) (hl:LabR k L) (b:Bool):(0<=(YH x t sp k (ZE t L b)).1/\(YH x t sp k (ZE t L b)).1<=1107369984)/\(0<=(YH x t sp k (ZE t L b)).2.1/\(YH x t sp k (ZE t L b)).2.1<=10000):=by
 have:=Jv h hl b;exact kV h.net h.mil Za
theorem JG {k d b s} :(XB k d b s).miles=s.miles:=by grind [XB]
theorem Gf {k d b s} :(XB k d b s).fin=s.fin:=by grind [XB]
theorem Kz {k d b s} :(XB k d b s).times.length=s.times.length:=by grind [XB,OQ]
theorem HA {x t sp k L b} (h:TrpOk x t sp) (hk:k<=sp.length) (hl:LabR k L) (he:(XT x t sp k L b).2=0):LabR (k+1) (XT x t sp k L b).1:=by
 have h1:=Jv h hl b;have h2:=EL hl b;obtain ⟨h3,h4⟩:=Hq h hl b;have h5:=hl.mil;have h6:=h.opn;have h7:=h.drv;have hm:(XB k (ZE t L b) b L.she).miles=L.she.miles:=JG;unfold XT at he ⊢
 generalize YH x t sp k (ZE t L b)=g at *
 generalize ZE t L b=d at *
 generalize Wy L b=s at *
 generalize XB k d b L.she=m at *
 unfold Y9 at he ⊢
 split at he
 ·simp at he
 ·rename_i c1;rw [if_neg c1]
  split at he
  ·rename_i c2;rw [if_pos c2]
   split at he
   ·simp at he
   ·rename_i c3;rw [if_neg c3]
    split at he
    ·simp at he
    ·rename_i c4;rw [if_neg c4];exact ⟨by grind,by grind,by grind⟩
  ·rename_i c2;rw [if_neg c2];have h8:=h.stp _ (ZH (show k<sp.length by omega))
   split at he
   ·simp at he
   ·rename_i c3;rw [if_neg c3]
    split at he
    ·simp at he
    ·rename_i c4;rw [if_neg c4];exact ⟨by grind,by grind,by grind⟩
theorem Ec {x t sp k L b} (hl:L.she.times.length=k) (he:(XT x t sp k L b).2=0) (hk:k<sp.length):(XT x t sp k L b).1.she.times.length=k+1:=by
 have hm:(XB k (ZE t L b) b L.she).times.length=L.she.times.length:=Kz;unfold XT at he ⊢
 generalize YH x t sp k (ZE t L b)=g at *
 generalize ZE t L b=d at *
 generalize Wy L b=s at *
 generalize XB k d b L.she=m at *
 have hk2: ¬k=sp.length:=Za
 unfold Y9 at he ⊢
 grind
def Z8 (m x:Lab):Bool:=decide (m.ready=x.ready)&&decide (m.since<=x.since)
theorem MF {x t sp k} {m y z:Lab} {b:Bool} (hb:Z8 m y=true) (hn:XL x t sp k y b=some z): ∃u,XL x t sp k m b=some u/\Z8 u z=true:=by
 simp only [Z8,Zy,Zp] at hb;obtain ⟨hb1,hb2⟩:=hb
 have hd:ZE t m b=ZE t y b:=by simp [ZE,hb1]
 have hs:Wy m b<=Wy y b:=by grind [Wy]
 unfold XL at hn ⊢;unfold XT at hn ⊢;rw [hd]
 generalize YH x t sp k (ZE t y b)=g at *
 generalize ZE t y b=d at *
 generalize Wy y b=s at *
 generalize Wy m b=s2 at *
 generalize XB k d b y.she=h1 at *
 generalize XB k d b m.she=h2 at *
 unfold Y9 at hn ⊢
 by_cases c1:g.2.2=0
 ·by_cases c2:k=sp.length
  ·simp only [c1,c2,not_true,if_true,Yq] at hn ⊢
   by_cases c3:t.cls<g.1
   ·grind
   ·by_cases c4:t.drive<s+g.1-d
    ·grind
    ·have c5: ¬t.drive<s2+g.1-d:=Za
     simp only [c3,c4,Yq,if_true,XQ] at hn;subst hn;refine ⟨_,by simp only [c3,c5,Yq,if_true];rfl,?_⟩;simp [Z8];omega
  ·simp only [c1,c2,not_true,Yq] at hn ⊢
   by_cases c3:(nth sp k).cls<max g.1 (nth sp k).opn
   ·grind
   ·by_cases c4:t.drive<s+g.1-d
    ·grind
    ·have c5: ¬t.drive<s2+g.1-d:=Za
     simp only [c3,c4,Yq,if_true,XQ] at hn;subst hn;refine ⟨_,by simp only [c3,c5,Yq,if_true];rfl,?_⟩;simp [Z8];omega
 grind
def Y3 (L:Lab):Int:=L.she.fin
theorem Lv {x t sp} {y z:Lab} {b:Bool} (hn:XL x t sp sp.length y b=some z):z.she.fin=z.ready:=by
 unfold XL XT Y9 at hn
 grind
theorem F8 {x t sp} (ch:Nat->List Bool) (L:Lab):Vb Y3 none (Jf Z8 (XL x t sp) ch (sp.length+1) 0 [L])=Vb Y3 none (W4 (XL x t sp) ch (sp.length+1) 0 L):=by
 have h:=OI Y3 Z8 (XL x t sp) ch (n:=sp.length+1) (Inv:=fun k y=>k=sp.length+1->y.she.fin=y.ready)
  (fun k y b z _ hn hk=>by
   grind [Lv]) (fun k m y b z _ _ hb hn=>MF hb hn)
  (fun m y h1 h2 hb=>by
   simp only [Z8,Zy,Zp] at hb
   rw [Y3,Y3,h1 rfl,h2 rfl];omega) (sp.length+1) 0 [L] Za (fun y _ hk=>Za)
 rw [h];simp
def VS (r:List Bool) (k:Nat):List Bool:=match r[k]? with | some b=> [b] | none=> [false,true]
theorem Oq (r:List Bool) (n:Nat) (hn:r.length<=n): ∀(j k:Nat),k+j=r.length->Hm (VS r) (n-k) k=(YU (List.replicate (n-r.length) false)).map (r.drop k++ ·)
 | 0,k,h=>by
  have hk:k=r.length:=Za
  subst hk;rw [IZ (n:=n) _ _ _ (fun q hq=>by grind [VS])];simp
 | j+1,k,h=>by
  have e:n-k=(n-(k+1))+1:=Za
  have hlt:k<r.length:=Za
  rw [e,Hm,Oq r n hn j (k+1) Za]
  have:VS r k= [r[k]]:=by simp [VS,hlt]
  rw [this,List.flatMap_cons,List.flatMap_nil,Uj,List.map_map,Ug hlt]
  rfl
theorem FT (r:List Bool) (n:Nat) (hn:r.length<=n):Hm (VS r) n 0=(YU (List.replicate (n-r.length) false)).map (r++ ·):=by
 have:=Oq r n hn r.length 0 Za
 grind
def YP (r:List Bool) (n:Nat):List (List Bool):=(YU (List.replicate (n-r.length) false)).map (r++ ·)
def YY (r:List Bool) (n:Nat):List Bool:=r++List.replicate (n-r.length) false
def V9 (x:Inst) (t:Typ) (sp:List Stp) (st:Int) (r:List Bool):She×Int :=
 match Vb Y3 none ((YP r (sp.length+1)).filterMap (Va (XL x t sp) 0 (Xy t st))) with
 | some L=>(L.she,0)
 | none=>(zShe,(Xu x t sp 0 (Xy t st) (YY r (sp.length+1))).2)
theorem G4 {x t sp} {st:Int} {r:List Bool} (hr:r.length<=sp.length+1):V9 x t sp st r=match Vb Y3 none (Jf Z8 (XL x t sp) (VS r) (sp.length+1) 0 [Xy t st]) with
 | some L=>(L.she,0)
 | none=>(zShe,(Xu x t sp 0 (Xy t st) (YY r (sp.length+1))).2):=by
 rw [F8,W4,FT r _ hr];rfl
theorem LQ {x t sp} : ∀(bs:List Bool) (k:Nat) (L:Lab),L.she.times.length=k->k+bs.length=sp.length+1->0<bs.length->(Xu x t sp k L bs).2=0->(Xu x t sp k L bs).1.she.times.length=sp.length
 | [],k,L,h1,h2,h3,h=>by simp at h3
 | b::bs,k,L,h1,h2,_,h=>by
  rw [Xu] at h ⊢
  by_cases h4:(XT x t sp k L b).2=0
  ·simp only [h4,if_true] at h ⊢
   cases bs with
   | nil =>
    simp at h2;subst h2;rw [Xu];unfold XT at h4 ⊢;unfold Y9 at h4 ⊢
    split at h4
    ·simp at h4
    ·rename_i c1;rw [if_neg c1];simp only [if_true] at h4 ⊢
     split at h4
     ·simp at h4
     ·rename_i c2;rw [if_neg c2]
      split at h4
      ·simp at h4
      simp_all [if_neg,Kz]
   | cons b2 bs =>
    simp at h2;exact LQ (b2::bs) (k+1) _ (Ec h1 h4 Za) (by simp;omega) Zb h
  grind
theorem bestF_len {x t sp} {st:Int} {r:List Bool} (hr:r.length<=sp.length+1) (h:(V9 x t sp st r).2=0):(V9 x t sp st r).1.times.length=sp.length:=by
 unfold V9 at h ⊢
 cases hf:Vb Y3 none ((YP r (sp.length+1)).filterMap (Va (XL x t sp) 0 (Xy t st))) with
 | none =>
  rw [hf] at h;simp only at h ⊢;exfalso
  have hm:YY r (sp.length+1)∈YP r (sp.length+1):=by
   grind [YP,YY,fromB_next]
  have h2:Va (XL x t sp) 0 (Xy t st) (YY r (sp.length+1))=some (Xu x t sp 0 (Xy t st) (YY r (sp.length+1))).1:=by rw [VF,if_pos h]
  have h3:(Xu x t sp 0 (Xy t st) (YY r (sp.length+1))).1∈(YP r (sp.length+1)).filterMap (Va (XL x t sp) 0 (Xy t st)):=A7.2 ⟨_,hm,h2⟩;generalize (YP r (sp.length+1)).filterMap (Va (XL x t sp) 0 (Xy t st))=l at hf h3
  cases l with
  | nil=>simp at h3
  | cons a l =>
   rw [Vb] at hf;obtain ⟨z,e,_⟩:=Qg Y3 l a
   grind
 | some L =>
  simp only;have hm:=fmL_mem _ _ hf;obtain ⟨bs,hbs,hrun⟩:=A7.1 hm;rw [VF] at hrun
  split at hrun
  ·rename_i h5;simp at hrun;subst hrun;obtain ⟨q,hq,rfl⟩:=XM.1 hbs;have hql:=fromB_len _ _ hq;simp at hql;exact LQ _ 0 _ rfl (by grind) (by grind) h5
  ·cases hrun
where
 fmL_mem: ∀(l:List Lab) (L:Lab),Vb Y3 none l=some L->L∈l
 | [],L,h=>by simp [Vb] at h
 | a::l,L,h=>by
  rw [Vb] at h;exact fmL_mem2 l a L h
 fmL_mem2: ∀(l:List Lab) (a L:Lab),Vb Y3 (some a) l=some L->L∈a::l
 | [],a,L,h=>by grind [Vb]
 | y::l,a,L,h=>by
  rw [Vb] at h
  split at h
  ·have:=fmL_mem2 l y L h;grind
  ·have:=fmL_mem2 l a L h;grind
 fromB_len: ∀(l q:List Bool),q∈YU l->q.length=l.length
 | [],q,h=>by grind [YU]
 | b::bs,q,h=>by
  rw [YU] at h
  split at h
  ·obtain ⟨q',hq,rfl⟩:=XM.1 h;simp [fromB_len bs q' hq]
  ·rcases Xr.1 h with h | h
   ·obtain ⟨q',hq,rfl⟩:=XM.1 h;simp [fromB_len bs q' hq]
   ·obtain ⟨q',hq,rfl⟩:=XM.1 h;simp [fromB_len (List.replicate bs.length false) q' hq]
 termination_by l=>l.length
 decreasing_by all_goals simp
def stopV (x:Inst) (v:Vis):Stp:=if v.drp=true then (nth x.orders v.order.toNat).drp else (nth x.orders v.order.toNat).pick
def Xs (x:Inst) (l:List Vis):List Stp:=l.map (stopV x)
def Wn (t:Typ) (s:Int):Bool:=decide (0<=t.skills)&&decide (0<=s)&&(List.range 63).all fun i=> !s.toNat.testBit i||t.skills.toNat.testBit i
def Uw (a c:List Int):Bool:=decide (a.length=c.length)&&(List.range a.length).all fun i=>decide (nth a i<=nth c i)
def UE (x:Inst) (c:List Int) (l:List Vis):Bool:=(List.range (l.length+1)).all fun n=>Uw (Y1 x l n) c
def ZR (x:Inst) (r:Rte):Typ:=nth x.types r.typ.toNat
def VK (l:List Vis) (i:Nat):Bool:= !((l.take i).any fun v=>decide (v.order=(nth l i).order))
def Xg (k t:Int):Bool:=decide (k≠ -1)&&decide (k≠t)
def chgF (x:Inst) (l:List Vis) (t:Int):Nat->Int×Int
 | 0=>(0,0)
 | n+1=>if VK l n=true then ((chgF x l t n).1+(if Xg (nth x.orders (nth l n).order.toNat).now t=true then 1 else 0),(chgF x l t n).2+(if Xg (nth x.orders (nth l n).order.toNat).last t=true then 1 else 0)) else chgF x l t n
def HR (x:Inst) (r:Rte) (s:She):Sco :=
 ⟨(ZR x r).fixed+(ZR x r).perMile*s.miles+(ZR x r).perTick*(s.fin-(ZR x r).opn),(chgF x r.visits r.typ r.visits.length).1,(chgF x r.visits r.typ r.visits.length).2,(s.fin-(ZR x r).opn).tdiv 64*(s.fin-(ZR x r).opn).tdiv 64⟩
def X7 (x:Inst) (r:Rte):Int :=
 if ¬(0<=r.typ/\r.typ<(x.types.length:Int)) then 2
 else if ¬Xk x r.visits=0 then Xk x r.visits
 else if (r.visits.any fun v=> !Wn (ZR x r) (nth x.orders v.order.toNat).skills)=true then 18
 else if UE x (ZR x r).cap r.visits=false then 17
 else if ¬(0<=r.start/\r.start<=4096/\r.rests.length<=r.visits.length+1) then 2
 else 0
def Xl (x:Inst) (r:Rte):She×Int:=V9 x (ZR x r) (Xs x r.visits) r.start r.rests
def evalE (x:Inst) (r:Rte):Int:=if X7 x r=0 then (Xl x r).2 else X7 x r
def Xc (x:Inst) (r:Rte):She:=if evalE x r=0 then (Xl x r).1 else zShe
def X2 (x:Inst) (r:Rte):Sco:=if evalE x r=0 then HR x r (Xl x r).1 else zSco
def Za9 : Stp:=⟨0,0,0,0⟩
def OC (x:Inst) (v:Vis):Bool:=decide (0<=v.order)&&decide (v.order<(x.orders.length:Int))
def J3 (x:Inst) (v:Vis):Bool:=OC x v&&decide (0<=(stopV x v).place)
def BI (x:Inst) (v:Vis):Stp:=if OC x v=true then stopV x v else Za9
theorem Mc (x:Inst) (v:Vis) (ho:x.orders.length<=1048576):PT 186 [.p (ZF x),.p (ZX v)] [.p (Hj (BI x v)),.p (.bool (J3 x v))]:=by
 refine Zg [] Tryz.func186 rfl wK ?_;simp (disch:=omega) only [Tryz.f186,go_sem,seval];refine gF ?_ ?_<;>intro h1<;>simp (disch:=omega) only [Sh.out h1,go_sem,seval,↓reduceIte]
 ·have e:OC x v=false:=by
   grind [OC]
  simp only [BI,J3,e,U2,Yh,Yq,Za9];exact we
 ·refine cD ?_ ?_<;>intro h2<;>simp (disch:=omega) only [Sh.out h2,go_sem,seval,↓reduceIte]
  ·have e:OC x v=false:=by
    grind [OC]
   simp only [BI,J3,e,U2,Yh,Yq,Za9];exact we
  ·have e:OC x v=true:=by simp [OC];omega
   have hi:v.order.toNat<x.orders.length:=Za
   refine cD ?_ ?_<;>intro hd<;>simp (disch:=omega) only [Sh.out hd,go_sem,seval,↓reduceIte]
   ·have hG:BI x v=(nth x.orders v.order.toNat).drp:=by simp [BI,e,stopV,hd]
    have hV:J3 x v=decide (0<=(nth x.orders v.order.toNat).drp.place):=by simp [J3,e,stopV,hd]
    rw [hG,hV];refine IC (.cons 0 (.cons 1 (.cons 2 (.cons 3 (.cons 4 (.cons 5 .nil .nil) .nil) (.cons 4 (.cons 3 (.cons 5 .nil .nil) .nil) .nil)) (.cons 4 (.cons 2 (.cons 3 (.cons 5 .nil .nil) .nil) .nil) .nil)) (.cons 4 (.cons 1 (.cons 2 (.cons 3 (.cons 5 .nil .nil) .nil) .nil) .nil) .nil)) (.cons 1 (.cons 0 (.cons 2 (.cons 3 (.cons 4 (.cons 5 .nil .nil) .nil) (.cons 4 (.cons 3 (.cons 5 .nil .nil) .nil) .nil)) (.cons 4 (.cons 2 (.cons 3 (.cons 5 .nil .nil) .nil) .nil) .nil)) (.cons 2 (.cons 0 (.cons 3 (.cons 4 (.cons 5 .nil .nil) .nil) (.cons 4 (.cons 3 (.cons 5 .nil .nil) .nil) .nil)) (.cons 3 (.cons 0 (.cons 4 (.cons 5 .nil .nil) .nil) .nil) .nil)) .nil)) .nil)) mixed Ze ?_
    refine Zc ?_
    repeat' first
     | refine FD ?_ ?_
     | exact we
     | simp (disch:=omega) only [go_sem,seval,↓reduceIte]
   ·have hG:BI x v=(nth x.orders v.order.toNat).pick:=by simp [BI,e,stopV,hd]
    have hV:J3 x v=decide (0<=(nth x.orders v.order.toNat).pick.place):=by simp [J3,e,stopV,hd]
    rw [hG,hV];refine IC (.cons 0 (.cons 1 (.cons 2 (.cons 3 (.cons 4 (.cons 5 .nil .nil) .nil) (.cons 4 (.cons 3 (.cons 5 .nil .nil) .nil) .nil)) (.cons 4 (.cons 2 (.cons 3 (.cons 5 .nil .nil) .nil) .nil) .nil)) (.cons 4 (.cons 1 (.cons 2 (.cons 3 (.cons 5 .nil .nil) .nil) .nil) .nil) .nil)) (.cons 1 (.cons 0 (.cons 2 (.cons 3 (.cons 4 (.cons 5 .nil .nil) .nil) (.cons 4 (.cons 3 (.cons 5 .nil .nil) .nil) .nil)) (.cons 4 (.cons 2 (.cons 3 (.cons 5 .nil .nil) .nil) .nil) .nil)) (.cons 2 (.cons 0 (.cons 3 (.cons 4 (.cons 5 .nil .nil) .nil) (.cons 4 (.cons 3 (.cons 5 .nil .nil) .nil) .nil)) (.cons 3 (.cons 0 (.cons 4 (.cons 5 .nil .nil) .nil) .nil) .nil)) .nil)) .nil)) mixed Ze ?_
    refine Zc ?_
    repeat' first
     | refine FD ?_ ?_
     | exact we
     | simp (disch:=omega) only [go_sem,seval,↓reduceIte]
def VE (x:Inst) (r:Rte):Bool:=(decide (0<=r.typ)&&decide (r.typ<(x.types.length:Int))&&decide (0<=r.start)&&decide (r.start<=4096)&&decide (r.visits.length<=20))&&r.visits.all (J3 x)
theorem En (x:Inst) (r:Rte) (ho:x.orders.length<=1048576) (ht:x.types.length<=1048576) (hl:r.visits.length<=1048576):PC 141 [.p (ZF x),.p (Z0 r)] (.bool (VE x r)):=by
 refine Zd Tryz.func141 rfl vI ?_;simp (disch:=omega) only [Tryz.f141,go_sem,seval];refine gF ?_ ?_<;>intro h1<;>simp (disch:=omega) only [Sh.out h1,go_sem,seval,↓reduceIte]
 ·simp [VE];omega
 ·refine gF ?_ ?_<;>intro h2<;>simp (disch:=omega) only [Sh.out h2,go_sem,seval,↓reduceIte]
  ·simp [VE];omega
  ·refine gF ?_ ?_<;>intro h3<;>simp (disch:=omega) only [Sh.out h3,go_sem,seval,↓reduceIte]
   ·simp [VE];omega
   ·refine gF ?_ ?_<;>intro h4<;>simp (disch:=omega) only [Sh.out h4,go_sem,seval,↓reduceIte]
    ·simp [VE];omega
    ·refine cD ?_ ?_<;>intro h5<;>simp (disch:=omega) only [Sh.out h5,go_sem,seval]
     ·simp [VE];omega
     ·refine Zl [2,3] (fun k:Nat=> [(5,.p (.int .i64 k))]) (fun _=> [Zj x,ZO r]) (fun k=>k<=r.visits.length/\ ∀j,j<k->J3 x (nth r.visits j)=true) (fun k=>r.visits.length-k) 0 Zb (Weak.mk ?_) ?_
      ·simp (disch:=omega) only [Zj,ZO,go_sem,seval]
      ·rintro k ⟨hk,hno⟩;refine Jk ?_;refine cD ?_ ?_<;>intro h<;>simp (disch:=omega) only [Sh.out h,go_sem,seval,↓reduceIte]
       ·have hk2:k<r.visits.length:=Za
        refine XX [10,11] 12 mixed Ze Ze Ze Zb (Zc ?_);refine BY (Mc x (nth r.visits k) ho) (Zc ?_);refine Xb 10 _ _ Ze (by refine Zc ?_;exact ⟨rfl,rfl⟩) ?_;refine Zc ?_;refine Xb 11 _ _ Ze (by refine Zc ?_;exact ⟨rfl,rfl⟩) (Wb ?_);refine Zc ?_;refine ZD ?_ ?_<;>intro h6
        ·grind [Zo,VE]
        ·exact ⟨k+1,⟨Za,Zn.2 ⟨hno,by grind⟩⟩,Za,wk⟩
       ·have hkl:k=r.visits.length:=Za
        subst hkl
        have:r.visits.all (J3 x)=true:=by
         rw [Zu];intro v hv;obtain ⟨j,hj,rfl⟩:=ZW.1 hv
         grind [Zh]
        grind [VE]
@[go_sem high] theorem Ziy {k k':IntKind} {a b:Int} :Mw false [.p (.int k a),.p (.int k' b)]=some (.int k (max a b)):=by
 grind [Mw]
theorem Nb {l:List Tim} {m:Tim} {d:Int} {b:Bool} :OQ (l++ [m]) l.length d b=l++ [{ m with dep:=d,rest:=b }]:=by
 grind [Zh,OQ]
theorem Sv {x:Inst} {t:Typ} {sp:List Stp} {k:Nat} {d s m:Int} {h:She} (hk:k<sp.length) (ho:(nth sp k).opn<=(nth sp k).cls) (hm:h.miles=m) :
  (Qt x t ⟨Jo t sp k,d,s,m⟩ (nth sp k).place (nth sp k).cls 14).2=(Y9 t sp k (YH x t sp k d) d s h).2 /\
  ((Y9 t sp k (YH x t sp k d) d s h).2=0->(Qt x t ⟨Jo t sp k,d,s,m⟩ (nth sp k).place (nth sp k).cls 14).1=⟨(nth sp k).place,(YH x t sp k d).1,s+(YH x t sp k d).1-d,m+(YH x t sp k d).2.1⟩ /\
   (Y9 t sp k (YH x t sp k d) d s h).1=⟨max (YH x t sp k d).1 (nth sp k).opn+(nth sp k).serv,s+(YH x t sp k d).1-d,{ h with times_c:=false,times:=h.times++ [⟨(YH x t sp k d).1,max (YH x t sp k d).1 (nth sp k).opn,0,false⟩],miles:=m+(YH x t sp k d).2.1 }⟩):=by
 have hne: ¬k=sp.length:=Za
 have e:V2 x.net t.prof (Jo t sp k) (nth sp k).place d=YH x t sp k d:=by simp [YH,SO,hne]
 unfold Qt Y9
 grind
theorem Sw {x:Inst} {t:Typ} {sp:List Stp} {d s m:Int} {h:She} (hm:h.miles=m) :
  (Qt x t ⟨Jo t sp sp.length,d,s,m⟩ t.dst t.cls 15).2=(Y9 t sp sp.length (YH x t sp sp.length d) d s h).2 /\
  ((Y9 t sp sp.length (YH x t sp sp.length d) d s h).2=0->(Qt x t ⟨Jo t sp sp.length,d,s,m⟩ t.dst t.cls 15).1=⟨t.dst,(YH x t sp sp.length d).1,s+(YH x t sp sp.length d).1-d,m+(YH x t sp sp.length d).2.1⟩ /\
   (Y9 t sp sp.length (YH x t sp sp.length d) d s h).1=⟨(YH x t sp sp.length d).1,s+(YH x t sp sp.length d).1-d,{ h with fin:=(YH x t sp sp.length d).1,miles:=m+(YH x t sp sp.length d).2.1 }⟩):=by
 have e:V2 x.net t.prof (Jo t sp sp.length) t.dst d=YH x t sp sp.length d:=by simp [YH,SO]
 unfold Qt Y9
 grind
def ZaU (s:StD):AM.Obj:= .cells [.p (.int .i64 s.place),.p (.int .i64 s.time),.p (.int .i64 s.driven),.p (.int .i64 s.miles)]
def Qe (t:Typ) (sp:List Stp) (k:Nat) (L:Lab) (b:Bool):StD:=⟨Jo t sp k,ZE t L b,Wy L b,L.she.miles⟩
theorem Zh7 {g:FuncId} {args:List V} {a c:PV} {H:List AM.Obj} {K:V->List AM.Obj->Prop} (h:ACalls Tryz.prog g args [] fun x H'=> ∃b:PV,x= .tup [.p a,.p b,.p c]/\H'= []) (k: ∀b:PV,K (.tup [.p a,.p b,.p c]) H) (ha:Xe 0 args=true:=by rfl):ACalls Tryz.prog g args H K :=
 (h.behind ha H).mono fun x H' hq=>by
  obtain ⟨y,H1,⟨b,rfl,rfl⟩,rfl,rfl⟩:=hq
  grind [shV,shVs]
theorem X0 {x:Inst} {l:List Vis} :(Xs x l).length=l.length:=by simp [Xs]
theorem EM {x:Inst} {l:List Vis} {k:Nat} (h:k<l.length):nth (Xs x l) k=stopV x (nth l k):=by
 grind [Zh,Xs]
theorem VG {P Q:Prop} (h:Q) (e:Q->P:=by intro h;simp (disch:=omega) only [Zt,Zm,Xp,Z7,go_sem,seval];exact h):P:=e h
theorem mU (x:Inst) (r:Rte) (rests:List Bool) (c:Bool) (hok:TrpOk x (ZR x r) (Xs x r.visits)) (ho:x.orders.length<=1048576) (ht:x.types.length<=1048576) (hne:0<r.visits.length) (hp:VE x r=true) (hl:rests.length=r.visits.length+1) :
  ACalls Tryz.prog 187 [.p (ZF x),.p (Z0 r),.p (.list c (rests.map eB))] [] fun y H'=> ∃d:PV,y= .tup [.p (AK (Xu x (ZR x r) (Xs x r.visits) 0 (Xy (ZR x r) r.start) rests).1.she),.p d,.p (.int .i64 (Xu x (ZR x r) (Xs x r.visits) 0 (Xy (ZR x r) r.start) rests).2)]/\H'= []:=by
 have hp2:=hp;simp only [VE,Zy,Zp] at hp2;obtain ⟨⟨⟨⟨⟨p1,p2⟩,p3⟩,p4⟩,p5⟩,p6⟩:=hp2;have hvis: ∀k,k<r.visits.length->J3 x (nth r.visits k)=true:=fun k hk=>Zu.1 p6 _ (Zo hk)
 have hstop: ∀k,k<r.visits.length->BI x (nth r.visits k)=nth (Xs x r.visits) k:=fun k hk=>by
  simp_all [J3,BI,EM]
 have hti:r.typ.toNat<x.types.length:=Za
 have hopn:=hok.opn;have hrst:=hok.rst;have htd:ZR x r=nth x.types r.typ.toNat:=rfl
 generalize hT:ZR x r=t at *
 have hsl:(Xs x r.visits).length=r.visits.length:=X0
 generalize hS:Xs x r.visits=sp at *
 refine Zg [26] Tryz.func187 rfl wL ?_;simp (disch:=omega) only [Tryz.f187,go_sem,seval];refine (En x r ho ht Za).use (Zc ?_);rw [hp];refine Zc ?_;refine cD ?_ ?_<;>intro h0<;>simp (disch:=omega) only [Sh.out h0,<- htd,go_sem,seval,↓reduceIte]
 ·omega
 ·refine XX [13] 14 mixed Ze Ze Ze Zb (Zc ?_);refine Zq (LJ t ⟨t.src,max t.opn r.start,0,0⟩ (nth rests 0) (by grind)) (Zc ?_);refine Xb 13 _ _ Ze (by refine Zc ?_;exact ⟨rfl,rfl⟩) (Wb ?_);refine Zc ?_;refine XX [6] 7 mixed Ze Ze Ze Zb (Zc ?_);refine Xb 6 _ _ Ze (by refine Zc ?_;exact ⟨rfl,rfl⟩) (Wb ?_);refine Zc ?_;have hL0:LabR 0 (Xy t r.start):=⟨by grind [Xy],by simp [Xy],by simp [Xy,zShe]⟩
  have hS0:Et t ⟨t.src,max t.opn r.start,0,0⟩ (nth rests 0)=Qe t sp 0 (Xy t r.start) (nth rests 0):=by
   simp only [Et,Qe,Jo,ZE,Wy,Xy,zShe,if_true]
   split<;>rfl
  simp (disch:=omega) only [hS0,go_sem,seval]
  refine ZT [26] [2,3,4,6,9,10,11] (fun q:Nat×Lab×List Int=> [(12,.sl 7 0 q.2.2.length q.2.2.length),(13,.p (.int .i64 q.1))])
   (fun q=> [Zj x,ZO r,.cells [.p (.bool false),.p (.int .i64 0),.p (.list true []),.p (.int .i64 0),.p (.int .i64 0)],Yg t,ZaU (Qe t sp q.1 q.2.1 (nth rests q.1)),
    .cells [.p (.bool (XB q.1 (ZE t q.2.1 (nth rests q.1)) (nth rests q.1) q.2.1.she).rest),.p (.int .i64 (XB q.1 (ZE t q.2.1 (nth rests q.1)) (nth rests q.1) q.2.1.she).dep),.sl 6 0 (XB q.1 (ZE t q.2.1 (nth rests q.1)) (nth rests q.1) q.2.1.she).times.length (XB q.1 (ZE t q.2.1 (nth rests q.1)) (nth rests q.1) q.2.1.she).times.length,.p (.int .i64 0),.p (.int .i64 0)],
    .elems 4 ((XB q.1 (ZE t q.2.1 (nth rests q.1)) (nth rests q.1) q.2.1.she).times.map eTim),.elems 1 (q.2.2.map eI)])
   (fun q=>q.1<=r.visits.length/\Xu x t sp 0 (Xy t r.start) rests=Xu x t sp q.1 q.2.1 (rests.drop q.1)/\LabR q.1 q.2.1/\q.2.1.she.times.length=q.1/\q.2.1.she.fin=0/\(0<q.1->q.2.1.she.times_c=false)/\q.2.2.length=q.1) (fun q=>r.visits.length-q.1) (0,Xy t r.start,[])
   ⟨Zb,Zb,hL0,by rfl,by rfl,Zb,Zb⟩ ((Weak.nilC (o:=5) (j:=2) 4 rfl rfl Zb).trans (Weak.ofNil 12 1 rfl Zb (Weak.mk ?_))) ?_
  ·simp (disch:=omega) only [Zj,ZO,Yg,ZaU,Qe,Jo,XB,Xy,zShe,Zm,ZA,Xp,Z7,ZQ,ZG,go_sem,seval]
  ·rintro ⟨k,L,ds⟩ ⟨hk,hrun,hL,hlen,hfin,hclip,hds⟩;simp only at hk hrun hL hlen hfin hclip hds
   have hmlen:(XB k (ZE t L (nth rests k)) (nth rests k) L.she).times.length=k:=by grind [Kz]
   have hd:=Jv hok hL (nth rests k);have hs:=EL hL (nth rests k);have hg:=Hq hok hL (nth rests k);have hmi:=hL.mil
   generalize hm:XB k (ZE t L (nth rests k)) (nth rests k) L.she=m at *
   have hmm:m.miles=L.she.miles:=by rw [<- hm,JG]
   have hmf:m.fin=0:=by grind [Gf]
   have hdrop:rests.drop k=nth rests k::rests.drop (k+1):=by grind [Ug,Zh]
   have hnx:XT x t sp k L (nth rests k)=Y9 t sp k (YH x t sp k (ZE t L (nth rests k))) (ZE t L (nth rests k)) (Wy L (nth rests k)) m:=by rw [XT,hm]
   rw [hdrop,Xu] at hrun;simp (disch:=omega) only [Zj,ZO,Yg,ZaU,go_sem,seval];refine cD ?_ ?_<;>intro h<;>simp (disch:=omega) only [Sh.out h,go_sem,seval,↓reduceIte]
   ·have hk2:k<r.visits.length:=Za
    have hsp:=hok.stp _ (ZH (show k<sp.length by omega));refine XX [10,11] 12 mixed Ze Ze Ze Zb (Zc ?_);refine BY (Mc x (nth r.visits k) ho) (Zc ?_);refine Xb 10 _ _ Ze (by refine Zc ?_;exact ⟨rfl,rfl⟩) ?_;refine Zc ?_;refine Xb 11 _ _ Ze (by refine Zc ?_;exact ⟨rfl,rfl⟩) (Wb ?_);simp (disch:=omega) only [hstop k hk2,go_sem,seval];obtain ⟨f1,f2⟩:=Sv (x:=x) (t:=t) (d:=ZE t L (nth rests k)) (s:=Wy L (nth rests k)) (h:=m) (show k<sp.length by omega) hsp.2.1 hmm
    have he2:V2 x.net t.prof (Jo t sp k) (nth sp k).place (ZE t L (nth rests k))=YH x t sp k (ZE t L (nth rests k)):=by
     grind [YH,SO]
    refine X4 (Mb x t (Qe t sp k L (nth rests k)) (nth sp k).place (nth sp k).cls 14 hok.net ?_ ?_ ?_ ?_) ?_
    ·grind [Qe]
    ·grind [Qe,SU]
    ·grind [Qe,SU]
    ·grind [Qe,SU]
    have f1':(Qt x t (Qe t sp k L (nth rests k)) (nth sp k).place (nth sp k).cls 14).2=(XT x t sp k L (nth rests k)).2:=by rw [hnx,<- f1];rfl
    refine Zc ?_;rw [f1'];refine cD ?_ ?_<;>intro h3<;>simp (disch:=omega) only [Sh.out h3,go_sem,seval,↓reduceIte]
    ·rw [if_neg h3] at hrun;rw [hrun];simp only [We,zShe];exact ⟨_,_,Weak.mk (by simp (disch:=omega) only [Zm,go_sem,seval]),.list true [],rfl,rfl⟩
    ·have h3':(XT x t sp k L (nth rests k)).2=0:=XF.1 h3;rw [if_pos h3'] at hrun;have hL':=HA hok Za hL h3';rw [hnx] at h3';obtain ⟨f3,f4⟩:=f2 h3';have f3':(Qt x t (Qe t sp k L (nth rests k)) (nth sp k).place (nth sp k).cls 14).1=⟨(nth sp k).place,(YH x t sp k (ZE t L (nth rests k))).1,Wy L (nth rests k)+(YH x t sp k (ZE t L (nth rests k))).1-ZE t L (nth rests k),L.she.miles+(YH x t sp k (ZE t L (nth rests k))).2.1⟩:=f3
     have hL2:(XT x t sp k L (nth rests k)).1=⟨max (YH x t sp k (ZE t L (nth rests k))).1 (nth sp k).opn+(nth sp k).serv,Wy L (nth rests k)+(YH x t sp k (ZE t L (nth rests k))).1-ZE t L (nth rests k),{ m with times_c:=false,times:=m.times++ [⟨(YH x t sp k (ZE t L (nth rests k))).1,max (YH x t sp k (ZE t L (nth rests k))).1 (nth sp k).opn,0,false⟩],miles:=L.she.miles+(YH x t sp k (ZE t L (nth rests k))).2.1 }⟩:=by grind
     simp (disch:=omega) only [f3',go_sem,seval];refine XX [13] 14 mixed Ze Ze Ze Zb (Zc ?_);refine Xb 13 _ _ Ze (by refine Zc ?_;exact ⟨rfl,rfl⟩) (Wb ?_);refine Zc ?_
     generalize (XT x t sp k L (nth rests k)).1=L2 at *
     have hS1:Et t ⟨(nth sp k).place,max (YH x t sp k (ZE t L (nth rests k))).1 (nth sp k).opn+(nth sp k).serv,Wy L (nth rests k)+(YH x t sp k (ZE t L (nth rests k))).1-ZE t L (nth rests k),L.she.miles+(YH x t sp k (ZE t L (nth rests k))).2.1⟩ (nth rests (k+1))=Qe t sp (k+1) L2 (nth rests (k+1)):=by
      rw [hL2];simp only [Et,Qe,Jo,ZE,Wy,Nat.add_sub_cancel,if_neg (show ¬k+1=0 by omega)]
      split<;>rfl
     have hM:XB (k+1) (ZE t L2 (nth rests (k+1))) (nth rests (k+1)) L2.she= { m with times_c:=false,times:=m.times++ [⟨(YH x t sp k (ZE t L (nth rests k))).1,max (YH x t sp k (ZE t L (nth rests k))).1 (nth sp k).opn,ZE t L2 (nth rests (k+1)),nth rests (k+1)⟩],miles:=L.she.miles+(YH x t sp k (ZE t L (nth rests k))).2.1 } :=by
      have he:L2.she= { m with times_c:=false,times:=m.times++ [⟨(YH x t sp k (ZE t L (nth rests k))).1,max (YH x t sp k (ZE t L (nth rests k))).1 (nth sp k).opn,0,false⟩],miles:=L.she.miles+(YH x t sp k (ZE t L (nth rests k))).2.1 } :=by rw [hL2]
      rw [he,XB,if_neg Za,Nat.add_sub_cancel]
      grind [Nb]
     have hd2:=Jv hok hL' (nth rests (k+1));refine Z5 8 mixed Ze Ze (Zc ?_);refine Zq (LJ t ⟨(nth sp k).place,max (YH x t sp k (ZE t L (nth rests k))).1 (nth sp k).opn+(nth sp k).serv,Wy L (nth rests k)+(YH x t sp k (ZE t L (nth rests k))).1-ZE t L (nth rests k),L.she.miles+(YH x t sp k (ZE t L (nth rests k))).2.1⟩ (nth rests (k+1)) (by grind)) (Zc ?_);simp (disch:=omega) only [hS1,go_sem,seval];refine ⟨(k+1,L2,ds++ [L2.since]),⟨Za,hrun,hL',by grind,by grind,by grind,by simp [hds]⟩,Za,Weak.mk ?_⟩
     simp (disch:=omega) only [hM,hmlen,ZI,Zz,ZA,Xx,Zt,Zm,go_sem,seval];exact ⟨rfl,by grind⟩
   ·have hkl:k=sp.length:=Za
    subst hkl;obtain ⟨f1,f2⟩:=Sw (x:=x) (t:=t) (sp:=sp) (d:=ZE t L (nth rests sp.length)) (s:=Wy L (nth rests sp.length)) (h:=m) hmm
    have he2:V2 x.net t.prof (Jo t sp sp.length) t.dst (ZE t L (nth rests sp.length))=YH x t sp sp.length (ZE t L (nth rests sp.length)):=by simp [YH,SO]
    refine X4 (Mb x t (Qe t sp sp.length L (nth rests sp.length)) t.dst t.cls 15 hok.net ?_ ?_ ?_ ?_) ?_
    ·grind [Qe]
    ·grind [Qe,SU]
    ·grind [Qe,SU]
    ·grind [Qe,SU]
    have f1':(Qt x t (Qe t sp sp.length L (nth rests sp.length)) t.dst t.cls 15).2=(XT x t sp sp.length L (nth rests sp.length)).2:=by rw [hnx,<- f1];rfl
    refine Zc ?_;rw [f1'];have hdl:rests.drop (sp.length+1)= []:=C1 Za;rw [hdl,Xu] at hrun;refine cD ?_ ?_<;>intro h3<;>simp (disch:=omega) only [Sh.out h3,go_sem,seval,↓reduceIte]
    ·rw [if_neg h3] at hrun;rw [hrun];simp only [We,zShe];exact ⟨_,_,Weak.mk (by simp (disch:=omega) only [Zm,go_sem,seval]),.list true [],rfl,rfl⟩
    ·have h3':(XT x t sp sp.length L (nth rests sp.length)).2=0:=XF.1 h3;rw [if_pos h3'] at hrun;rw [hnx] at h3';obtain ⟨f3,f4⟩:=f2 h3';have f3':(Qt x t (Qe t sp sp.length L (nth rests sp.length)) t.dst t.cls 15).1=⟨t.dst,(YH x t sp sp.length (ZE t L (nth rests sp.length))).1,Wy L (nth rests sp.length)+(YH x t sp sp.length (ZE t L (nth rests sp.length))).1-ZE t L (nth rests sp.length),L.she.miles+(YH x t sp sp.length (ZE t L (nth rests sp.length))).2.1⟩:=f3;rw [hrun,hnx,f4];simp (disch:=omega) only [f3',go_sem,seval];refine Zr (Weak.fz (o:=6) (by rfl)) ?_
     refine Zr (Weak.fz (o:=7) (by rfl)) (Zf [] _ _ _ _ (VG ?_))
     have hmc:m.times_c=false:=by
      grind [XB]
     exact ⟨_,_,Weak.mk (by simp (disch:=omega) only [hmc,go_sem,seval]),.list false (ds.map eI++ [.int .i64 (Wy L (nth rests sp.length)+(YH x t sp sp.length (ZE t L (nth rests sp.length))).1-ZE t L (nth rests sp.length))]),rfl,rfl⟩
theorem iA (x:Inst) (r:Rte) (rests:List Bool) (c:Bool) (hok:TrpOk x (ZR x r) (Xs x r.visits)) (ho:x.orders.length<=1048576) (ht:x.types.length<=1048576) (hne:0<r.visits.length) (hp:VE x r=true) (hl:rests.length=r.visits.length+1) :
  PT 142 [.p (ZF x),.p (Z0 r),.p (.list c (rests.map eB))] [.p (AK (Xu x (ZR x r) (Xs x r.visits) 0 (Xy (ZR x r) r.start) rests).1.she),.p (.int .i64 (Xu x (ZR x r) (Xs x r.visits) 0 (Xy (ZR x r) r.start) rests).2)]:=by
 have cr:=mU x r rests c hok ho ht hne hp hl;generalize (Xu x (ZR x r) (Xs x r.visits) 0 (Xy (ZR x r) r.start) rests)=q at cr ⊢;obtain ⟨L,e⟩:=q;refine Zg [] Tryz.func142 rfl vJ ?_;simp (disch:=omega) only [Tryz.f142,go_sem,seval];refine Zh7 cr fun d=>Zc ?_;exact we
def CC (l:List Bool) (n:Nat):Option (List Bool):=(Yf (l.drop n)).map (l.take n++ ·)
def Nl : Option (List Bool)->PV
 | some l=> .list false (l.map eB)
 | none=> .list true []
theorem JJ : ∀m:Nat,Yf (List.replicate m true)=none
 | 0=>rfl
 | m+1=>by rw [Ac,Yf,JJ m];rfl
theorem Gj : ∀(a b r:List Bool),Yf b=some r->Yf (a++b)=some (a++r)
 | [],b,r,h=>h
 | x::a,b,r,h=>by rw [ZQ,Yf,Gj a b r h];rfl
theorem cV (a:List Bool) (m:Nat):Yf (a++false::List.replicate m true)=some (a++true::List.replicate m false):=by
 grind [Gj,Yf,JJ]
theorem L5 {o:List Bool} {i:Nat} {b:Bool} :(o.map eB).set i (.bool b)=(o.set i b).map eB:=by rw [Vu];rfl
theorem cT (l:List Bool) (c:Bool) (n:Nat) (hn:n<=l.length) (h0:0<l.length) (hl:l.length<=1048576):PT 143 [.p (.list c (l.map eB)),.p (.int .i64 (n:Nat))] [.p (Nl (CC l n)),.p (.bool (CC l n).isSome)]:=by
 refine Zg [8] Tryz.func143 rfl vK ?_;simp (disch:=omega) only [Tryz.f143,go_sem,seval];rw [if_pos ⟨Za,Za⟩];refine Zc ?_;refine ZT [8] [1] (fun q:Nat×List Bool=> [(6,.sl 0 0 q.2.length q.2.length),(7,.p (.int .i64 ((q.1:Int)-1)))]) (fun q=> [.elems 1 (q.2.map eB)]) (fun q=>n<=q.1/\q.1<=l.length/\q.2=l.take q.1++List.replicate (l.length-q.1) false/\l.drop q.1=List.replicate (l.length-q.1) true) (fun q=>q.1) (l.length,l) (by simp;omega) (Weak.mk ?_) ?_
 ·simp (disch:=omega) only [go_sem,seval]
 ·rintro ⟨j,o⟩ ⟨hj1,hj2,ho,hjt⟩;simp only at hj1 hj2 ho hjt
  have hol:o.length=l.length:=by grind
  refine Zc ?_;refine cD ?_ ?_<;>intro h<;>simp (disch:=omega) only [Sh.out h,go_sem,seval,↓reduceIte]
  ·obtain ⟨i,rfl⟩: ∃i,j=i+1:=⟨j-1,Za⟩
   have hij:(((i+1:Nat):Int)-1)=(i:Int):=Za
   have hat:nth o i=nth l i:=by
    grind [Zh]
   have Mo:l.drop i=nth l i::List.replicate (l.length-(i+1)) true:=by
    grind [Ug,Zh]
   have hio:i<o.length:=Za
   simp (disch:=first | omega | (simp only [Zz,ZA,ZI,ZM,ZY,Xf]<;>omega)) only [Int.add_sub_cancel,WY,hat,hio,go_sem,seval,↓reduceIte];refine cD ?_ ?_<;>intro h2<;>simp (disch:=omega) only [Sh.out h2,go_sem,seval]
   ·have hf:nth l i=false:=by grind
    have hres:CC l n=some (o.set i true):=by
     rw [hf] at Mo
     have e:l.drop n=(l.drop n).take (i-n)++false::List.replicate (l.length-(i+1)) true:=by
      rw [<- Mo,show l.drop i=(l.drop n).drop (i-n) by simp_all,List.take_append_drop]
     rw [CC,e,cV,ho];simp only [Bc,XQ]
     have e2:l.take (i+1)=l.take n++(l.drop n).take (i-n)++ [nth l i]:=by
      rw [Xw Za,Zh Za]
      congr 1
      have:l.take i=l.take (n+(i-n)):=by congr 1;omega
      grind
     rw [e2,hf]
     have el:(l.take n++(l.drop n).take (i-n)).length=i:=by simp;omega
     rw [Q1 (l.take n++(l.drop n).take (i-n)),List.set_append_right _ _ Za,el];simp
    rw [hres];simp (disch:=first | omega | (simp only [Zz,ZA,ZI,ZM,ZY,Xf]<;>omega)) only [L5,go_sem,seval,↓reduceIte];refine Zr (Weak.fz (o:=0) (by rfl)) ?_;refine Zf [] _ _ _ _ ?_;simp (disch:=omega) only [Zt,Zm,Z7,go_sem,seval];simp only [Bb,if_true];exact we (by simp (disch:=omega) only [Nl,Q0,go_sem,seval])
   ·have hf:nth l i=true:=by grind
    simp (disch:=first | omega | (simp only [Zz,ZA,ZI,ZM,ZY,Xf]<;>omega)) only [L5,go_sem,seval];refine ⟨(i,o.set i false),⟨Za,Za,?_,?_⟩,Za,Weak.mk (by simp (disch:=first | omega | (simp only [Zz,ZA,ZI,ZM,ZY,Xf]<;>omega)) only [Bb,go_sem,seval])⟩
    ·grind
    grind
  ·have hjn:j=n:=Za
   have hres:CC l n=none:=by grind [CC,JJ]
   rw [hres];exact we (by simp (disch:=omega) only [Nl,Km,go_sem,seval])
theorem RF {r q:List Bool} :CC (r++q) r.length=(Yf q).map (r++ ·):=by simp [CC]
theorem RT {l:List Bool} :Nl (some l)= .list false (l.map eB):=rfl
theorem RS : Nl none= .list true []:=rfl
def Fx (b:Option Lab):She:=match b with | some L=>L.she | none=>zShe
def Fm (r:List Bool) (cur:Option (List Bool)):List (List Bool):=match cur with | some q=>(YU q).map (r++ ·) | none=> []
theorem Cg {r s:List Bool} :Fm r (some s)=(r++s)::Fm r (Yf s):=by
 grind [Fm,fromB_next]
theorem LP {x:Inst} {t:Typ} {sp:List Stp} : ∀(bs:List Bool) (k:Nat) (L:Lab),¬(Xu x t sp k L bs).2=0->(Xu x t sp k L bs).1=We
 | [],k,L,h=>by simp [Xu] at h
 | b::bs,k,L,h=>by
  rw [Xu] at h ⊢
  split
  ·rename_i c;rw [if_pos c] at h;exact LP bs _ _ h
  ·rfl
theorem Tw (x:Inst) (r:Rte) (hok:TrpOk x (ZR x r) (Xs x r.visits)) (ho:x.orders.length<=1048576) (ht:x.types.length<=1048576) (hne:0<r.visits.length) (hp:VE x r=true) (hl:r.rests.length<=r.visits.length+1) :
  PT 89 [.p (ZF x),.p (Z0 r)] [.p (AK (Xl x r).1),.p (.int .i64 (Xl x r).2)]:=by
 have hsl:(Xs x r.visits).length=r.visits.length:=X0;have hp2:=hp;simp only [VE,Zy,Zp] at hp2;have hv20:=hp2.1.2;have hrun:=fun rests (c:Bool) (h:rests.length=r.visits.length+1)=>iA x r rests c hok ho ht hne hp h;have hopt:=fun bs=>VF (x:=x) (t:=ZR x r) (sp:=Xs x r.visits) bs 0 (Xy (ZR x r) r.start);unfold Xl V9
 generalize hS:Xs x r.visits=sp at *
 generalize ZR x r=t at *
 generalize Xy t r.start=L0 at *
 refine Zg [5,6] Tryz.func89 rfl qG ?_;simp (disch:=omega) only [Tryz.f89,go_sem,seval];refine (En x r ho ht Za).use (Zc ?_);rw [hp];refine Zc ?_;refine cD ?_ ?_<;>intro h0<;>simp (disch:=omega) only [Sh.out h0,go_sem,seval,↓reduceIte]
 ·omega
 ·refine Vt (G3 3 rfl rfl (Zc ?_));refine ⟨_,_,Ly (e:=4) rfl Tryz.underlying46 Ze rfl rfl rfl ?_ ?_ ?_,?_⟩
  ·simp
  ·simp;omega
  ·intro q hq;obtain ⟨b,_,rfl⟩:=XM.1 hq
   rfl
  ·have hpl:(YY r.rests (sp.length+1)).length=r.visits.length+1:=by simp [YY];omega
   have hpad:r.rests.map eB++(PV.bool false::List.replicate r.visits.length (PV.bool false)).drop (r.rests.map eB).length=(YY r.rests (sp.length+1)).map eB:=by
    rw [YY,Xx,<- Ac,List.drop_replicate,List.map_replicate,hsl,ZM];rfl
   simp only [Xp,Z7];rw [hpad];have h0r:=hopt (YY r.rests (sp.length+1))
   have cn: ∀s:List Bool,(r.rests++s).length=r.visits.length+1->PT 143 [.p (.list false ((r.rests++s).map eB)),.p (.int .i64 (r.rests.length:Nat))] [.p (Nl ((Yf s).map (r.rests++ ·))),.p (.bool ((Yf s).map (r.rests++ ·)).isSome)]:=fun s hs=>by
    grind [cT,RF]
   have e1:(Xu x t sp 0 L0 (YY r.rests (sp.length+1))).1.she=Fx (Va (XL x t sp) 0 L0 (YY r.rests (sp.length+1))):=by
    rw [h0r]
    split
    ·rfl
    ·rename_i c;rw [LP _ _ _ c];rfl
   have e2:decide ((Xu x t sp 0 L0 (YY r.rests (sp.length+1))).2=0)=(Va (XL x t sp) 0 L0 (YY r.rests (sp.length+1))).isSome:=by
    grind
   have hrp:=hrun (YY r.rests (sp.length+1)) false hpl;have X9:YP r.rests (sp.length+1)=Fm r.rests (some (List.replicate (sp.length+1-r.rests.length) false)):=rfl;refine Zr (Weak.fz (o:=3) (by rfl)) (Zf [] _ _ _ _ (VG ?_));rw [if_pos hpl];refine X4 hrp (Zc ?_);refine X4 (cn (List.replicate (sp.length+1-r.rests.length) false) hpl) ?_;simp (disch:=omega) only [e1,e2,go_sem,seval]
   have hfm:Vb Y3 none ((YP r.rests (sp.length+1)).filterMap (Va (XL x t sp) 0 L0))=Vb Y3 (Va (XL x t sp) 0 L0 (YY r.rests (sp.length+1))) ((Fm r.rests (Yf (List.replicate (sp.length+1-r.rests.length) false))).filterMap (Va (XL x t sp) 0 L0)):=by
    rw [X9,Cg,List.filterMap_cons];rw [show r.rests++List.replicate (sp.length+1-r.rests.length) false=YY r.rests (sp.length+1) from rfl]
    cases Va (XL x t sp) 0 L0 (YY r.rests (sp.length+1)) with
    | none=>rfl
    | some L=>rfl
   clear X9;generalize Vb Y3 none ((YP r.rests (sp.length+1)).filterMap (Va (XL x t sp) 0 L0))=res at hfm ⊢;generalize (Xu x t sp 0 L0 (YY r.rests (sp.length+1))).2=err0
   refine Zl [2,3,4,8,9] (fun q:Option (List Bool)×Option Lab=> [(7,.p (Nl (q.1.map (r.rests++ ·)))),(10,.p (.bool q.2.isSome)),(11,.p (.bool (q.1.map (r.rests++ ·)).isSome))])
    (fun q=> [Zj x,ZO r,.cells [.p (.bool false),.p (.int .i64 0),.p (.list true []),.p (.int .i64 0),.p (.int .i64 0)],.dead,.cells [.p (.bool (Fx q.2).rest),.p (.int .i64 (Fx q.2).dep),.p (.list (Fx q.2).times_c ((Fx q.2).times.map eTim)),.p (.int .i64 (Fx q.2).fin),.p (.int .i64 (Fx q.2).miles)]])
    (fun q=>res=Vb Y3 q.2 ((Fm r.rests q.1).filterMap (Va (XL x t sp) 0 L0))/\ ∀s,q.1=some s->s.length=sp.length+1-r.rests.length) (fun q=>(Fm r.rests q.1).length)
    (Yf (List.replicate (sp.length+1-r.rests.length) false),Va (XL x t sp) 0 L0 (YY r.rests (sp.length+1))) ⟨hfm,fun s hs=>by have:=fromB_next.nlen _ _ hs;grind⟩ (Weak.mk ?_) ?_
   ·simp (disch:=omega) only [Zj,ZO,go_sem,seval]
   ·rintro ⟨cur,b⟩ ⟨hR,hcl⟩;simp only at hR hcl
    cases cur with
    | none =>
     simp only [Fm,List.filterMap_nil] at hR;simp (disch:=omega) only [Option.map_none,Km,RS,Zj,ZO,go_sem,seval]
     cases b with
     | none =>
      rw [Vb] at hR;subst hR;simp (disch:=omega) only [Km,Q3,go_sem,seval];exact we (by simp (disch:=omega) only [zShe,Zm,go_sem,seval])
     | some m =>
      rw [Vb] at hR;subst hR;simp (disch:=omega) only [Q0,VY,Fx,go_sem,seval];exact we
    | some s =>
     have hsl2:=hcl s rfl;rw [Cg,List.filterMap_cons,hopt] at hR
     have hmu:(Fm r.rests (Yf s)).length<(Fm r.rests (some s)).length:=by rw [Cg];simp
     have hnl: ∀s',Yf s=some s'->s'.length=sp.length+1-r.rests.length:=fun s' hs'=>by grind [fromB_next.nlen]
     have hlen:(r.rests++s).length=r.visits.length+1:=by simp;omega
     have hr1:=hrun (r.rests++s) false hlen;have cn1:=cn s hlen;rw [Xx] at hr1 cn1;simp (disch:=omega) only [Bc,Q0,RT,Zj,ZO,go_sem,seval];generalize Xu x t sp 0 L0 (r.rests++s)=g at hR hr1;obtain ⟨Lg,eg⟩:=g;simp only at hR hr1;refine X4 hr1 (Zc ?_);refine gT ?_ ?_<;>intro h1<;>simp (disch:=omega) only [Sh.out h1,go_sem,seval,↓reduceIte]
     ·subst h1
      cases b with
      | none =>
       simp (disch:=omega) only [Km,Q3,go_sem,seval];refine X4 cn1 (Zc ?_);exact ⟨(Yf s,some Lg),⟨hR,hnl⟩,hmu,Weak.mk (by simp (disch:=omega) only [Fx,Q0,go_sem,seval])⟩
      | some m =>
       simp (disch:=omega) only [Q0,VY,Fx,go_sem,seval];refine cD ?_ ?_<;>intro h2<;>simp (disch:=omega) only [Sh.out h2,go_sem,seval,↓reduceIte]
       ·refine X4 cn1 ?_;refine Zc ?_;exact ⟨(Yf s,some Lg),⟨by rw [hR];simp only [if_true,Vb,Y3,h2],hnl⟩,hmu,Weak.mk (by simp (disch:=omega) only [Q0,go_sem,seval])⟩
       ·refine X4 cn1 ?_;refine Zc ?_;exact ⟨(Yf s,some m),⟨by rw [hR];simp only [if_true,Vb,Y3,h2,Yq],hnl⟩,hmu,Weak.mk (by simp (disch:=omega) only [Q0,go_sem,seval])⟩
     ·rw [if_neg h1] at hR;refine X4 cn1 (Zc ?_);exact ⟨(Yf s,b),⟨hR,hnl⟩,hmu,wk⟩
def eR (p:Bool×List Int):PV:= .list p.1 (p.2.map eI)
@[go_sem] theorem ZmQ (p:Bool×List Int):eR p= .list p.1 (p.2.map eI):=Zk rfl rfl
theorem aB (L:List (Bool×List Int)) (c:Bool) (d:Nat) (hd:d<=3) (hL:L.length<=1048576) (h: ∀p∈L,p.2.length=d):PC 283 [.p (.list c (L.map eR)),.p (.int .i64 (d:Nat))] (.bool true):=by
 refine Zd Tryz.func283 rfl yM ?_
 have e1: ¬(d:Int)<0:=Za
 have e2: ¬(3:Int)<d:=Za
 simp (disch:=omega) only [Tryz.f283,e1,e2,go_sem,seval];refine Zl [0,1] (fun k:Nat=> [(5,.p (.int .i64 k))]) (fun _=> []) (fun k=>k<=L.length) (fun k=>L.length-k) 0 Zb (Weak.mk ?_) ?_
 ·simp (disch:=omega) only [go_sem,seval,↓reduceIte]
 ·intro k hk;refine Zc ?_;refine cD ?_ ?_<;>intro h1<;>simp (disch:=omega) only [Sh.out h1,go_sem,seval,↓reduceIte]
  ·have hk2:k<L.length:=Za
   have hp:=h _ (Zo hk2);simp (disch:=omega) only [hp,go_sem,seval];exact ⟨k+1,Za,Za,wk⟩
def CL (L:List (Bool×List Int)) (k j:Nat):Int:=((L.take k).map fun p=>nth p.2 j).sum
theorem FN {L:List (Bool×List Int)} {k j:Nat} (h:k<L.length):CL L (k+1) j=CL L k j+nth (nth L k).2 j:=by
 grind [CL,Xw,Zh]
theorem IQ {L:List (Bool×List Int)} {d j:Nat} (h: ∀p∈L,p.2.length=d/\ ∀n∈p.2,0<=n/\n<=1000) (hj:j<d): ∀k,k<=L.length->0<=CL L k j/\CL L k j<=1000*(k:Int)
 | 0,_=>by simp [CL]
 | k+1,hk=>by
  have ih:=IQ h hj k Za;obtain ⟨h1,h2⟩:=h _ (Zo (show k<L.length by omega));have:=h2 _ (Zo (show j<(nth L k).2.length by omega))
  grind [FN]
def nJ (L:List (Bool×List Int)) (d:Nat):List Int:=(List.range d).map fun j=>CL L L.length j
theorem nI (L:List (Bool×List Int)) (c:Bool) (d:Nat) (hd:1<=d/\d<=3) (hL:L.length<=1048576) (h: ∀p∈L,p.2.length=d/\ ∀n∈p.2,0<=n/\n<=1000) :
  PT 247 [.p (.list c (L.map eR)),.p (.int .i64 (d:Nat))] [.p (.list false ((nJ L d).map eI)),.p (.int .i64 0)]:=by
 refine Zg [13] Tryz.func247 rfl xN ?_;simp (disch:=omega) only [Tryz.f247,go_sem,seval];refine (aB L c d hd.2 hL fun p hp=>(h p hp).1).use (Zc ?_);refine ZT [13] [0,1] (fun q:Nat×List Int=> [(6,.sl 0 0 q.2.length q.2.length),(7,.p (.int .i64 q.1))]) (fun q=> [.elems 1 (q.2.map eI)]) (fun q=>q.1<=d/\q.2=(List.range q.1).map fun j=>CL L L.length j) (fun q=>d-q.1) (0,[]) Zb (Weak.ofNil 6 1 rfl Zb (Weak.mk ?_)) ?_
 ·simp (disch:=omega) only [Zm,ZA,go_sem,seval,↓reduceIte]
 ·rintro ⟨j,o⟩ ⟨hj,ho⟩;simp only at hj ho
  have hol:o.length=j:=by rw [ho];simp
  refine Zc ?_;refine cD ?_ ?_<;>intro h1<;>simp (disch:=omega) only [Sh.out h1,go_sem,seval,↓reduceIte]
  ·have hj2:j<d:=Za
   refine Zl [0,1,6,7] (fun k:Nat=> [(8,.p (.int .i64 (CL L k j))),(9,.p (.int .i64 k))]) (fun _=> [.elems 1 (o.map eI)]) (fun k=>k<=L.length) (fun k=>L.length-k) 0 Zb (Weak.mk ?_) ?_
   ·simp (disch:=omega) only [CL,Y6,Zm,List.sum_nil,go_sem,seval,↓reduceIte]
   ·intro k hk;refine Zc ?_;refine cD ?_ ?_<;>intro h2<;>simp (disch:=omega) only [Sh.out h2,go_sem,seval,↓reduceIte]
    ·have hk2:k<L.length:=Za
     obtain ⟨g1,g2⟩:=h _ (Zo hk2);have g3:=g2 _ (Zo (show j<(nth L k).2.length by omega));have g4:=IQ h hj2 k hk;have g5:=FN (j:=j) hk2
     have g6:j<(nth L k).2.length:=Za
     refine Zc ?_;exact ⟨k+1,Za,Za,Weak.mk (by simp (disch:=omega) only [g5,go_sem,seval])⟩
    ·have hkl:k=L.length:=Za
     subst hkl;refine ⟨(j+1,o++ [CL L L.length j]),⟨Za,by grind [Yj]⟩,Za,Weak.mk (by simp (disch:=omega) only [ZI,Zz,ZA,Xx,Zt,Zm,go_sem,seval])⟩
  ·have hjd:j=d:=Za
   subst hjd;refine Zr (Weak.fz (o:=0) (by rfl)) ?_;refine Zf [] _ _ _ _ ?_;simp (disch:=omega) only [Zt,Zm,Z7,go_sem,seval];rw [nJ,<- ho];exact we
theorem aJ (a b:List Int) (c d:Bool) (ha:a.length<=1048576) (hb:b.length<=1048576):PC 140 [.p (.list c (a.map eI)),.p (.list d (b.map eI))] (.bool (Uw a b)):=by
 refine Zd Tryz.func140 rfl vH ?_;simp (disch:=omega) only [Tryz.f140,go_sem,seval];refine cD ?_ ?_<;>intro h1<;>simp (disch:=omega) only [Sh.out h1,go_sem,seval]
 ·grind [Uw]
 ·have h1':a.length=b.length:=Za
  refine Zl [0,1] (fun k:Nat=> [(5,.p (.int .i64 k))]) (fun _=> []) (fun k=>k<=a.length/\ ∀j,j<k->nth a j<=nth b j) (fun k=>a.length-k) 0 Zb (Weak.mk ?_) ?_
  ·simp (disch:=omega) only [go_sem,seval,↓reduceIte]
  ·rintro k ⟨hk,hno⟩;refine Zc ?_;refine cD ?_ ?_<;>intro h2<;>simp (disch:=omega) only [Sh.out h2,go_sem,seval,↓reduceIte]
   ·have hk2:k<a.length:=Za
    refine Xn (Zc ?_);refine cD ?_ ?_<;>intro h3<;>simp (disch:=omega) only [Sh.out h3,go_sem,seval,↓reduceIte]
    ·grind [Uw]
    ·exact ⟨k+1,⟨Za,Zn.2 ⟨hno,Za⟩⟩,Za,wk⟩
   ·have hkl:k=a.length:=Za
    simp_all [Uw]
theorem T4 (x:Inst) (ht:x.types.length<=1048576):PC 248 [.p (ZF x)] (.int .i64 (dimsOf x.types)):=by
 refine Zd Tryz.func248 rfl xO ?_;simp (disch:=omega) only [Tryz.f248,go_sem,seval];refine cD ?_ ?_<;>intro h1<;>simp (disch:=omega) only [Sh.out h1,go_sem,seval,↓reduceIte]
 ·grind [dimsOf]
 simp_all [dimsOf]
structure LdOk (x:Inst):Prop where
 ord:x.orders.length<=10
 typ:x.types.length<=1048576
 dim:1<=dimsOf x.types/\dimsOf x.types<=3
 load: ∀o∈x.orders,(o.load.length:Int)=dimsOf x.types/\ ∀n∈o.load,0<=n/\n<=1000
theorem Uy {x:Inst} (h:InstOk x):LdOk x:=by
 have ht:=h.types.1;simp only [rng,Zp] at ht;have ho:=h.orders
 have h0:0<x.types.length:=Za
 have hcap:=h.types.2 0 h0;unfold KY at hcap;obtain ⟨⟨⟨⟨⟨⟨⟨⟨_,_⟩,_⟩,_⟩,hcap⟩,_⟩,_⟩,_⟩,_⟩:=hcap;simp only [Ub,Zy,Zp,rng] at hcap;refine ⟨ho.1,Za,Za,fun o hm=> ?_⟩;obtain ⟨i,hi,rfl⟩:=ZW.1 hm;have:=(ho.2 i hi).load;rw [Zh hi] at this
 simp_all [loadOk,rng]
def Fb (x:Inst) (l:List Vis) (n k:Nat):List (Bool×List Int):=((List.range k).filter fun i=>Fj x l n i&&hasO l i).map fun i=>((nth x.orders i).load_c,(nth x.orders i).load)
theorem PY {x:Inst} {l:List Vis} {n k:Nat} :Fb x l n (k+1)=Fb x l n k++if (Fj x l n k&&hasO l k)=true then [((nth x.orders k).load_c,(nth x.orders k).load)] else []:=by
 grind [Fb,Yj]
theorem TA {x:Inst} {l:List Vis} {n:Nat} : ∀k,(Fb x l n k).length<=k:=fun k=>by
 grind [Fb]
theorem jJ {x:Inst} {l:List Vis} {n k:Nat} (h:LdOk x) (hk:k<=x.orders.length): ∀p∈Fb x l n k,p.2.length=(dimsOf x.types).toNat/\ ∀m∈p.2,0<=m/\m<=1000:=fun p hp=>by
 obtain ⟨i,hi,rfl⟩:=XM.1 hp;have hi2:=ZS.1 (QU.1 hi).1;have:=h.load _ (Zo (show i<x.orders.length by omega))
 grind
theorem TB {x:Inst} {l:List Vis} {n:Nat} :nJ (Fb x l n x.orders.length) (dimsOf x.types).toNat=Y1 x l n:=by
 unfold nJ Y1
 grind [CL,Fb,CQ,Ja]
def qO (x:Inst) (l:List Vis) (n i k:Nat):Bool:=(l.take (min k n)).foldl (fun on v=>if v.order=(i:Int) then !v.drp else on) (decide ((nth x.orders i).pick.place<0))
def M5 (l:List Vis) (i k:Nat):Bool:=(l.take k).any fun v=>decide (v.order=(i:Int))
theorem dF {x:Inst} {l:List Vis} {n i k:Nat} (h:k<l.length):qO x l n i (k+1)=if (nth l k).order=(i:Int) then (if k<n then !(nth l k).drp else qO x l n i k) else qO x l n i k:=by
 grind [qO,Xw,Zh]
theorem Rl {l:List Vis} {i k:Nat} (h:k<l.length):M5 l i (k+1)=if (nth l k).order=(i:Int) then true else M5 l i k:=by
 grind [M5,Xw,Zh]
theorem lR {x:Inst} {l:List Vis} {n i:Nat} (h:n<=l.length):qO x l n i l.length=Fj x l n i:=by
 grind [qO,Fj]
theorem bE {l:List Vis} {i:Nat} :M5 l i l.length=hasO l i:=by grind [M5,hasO]
theorem Pw (x:Inst) (l:List Vis) (c:Bool) (n:Nat) (hx:LdOk x) (hl:l.length<=1048576) (hn:n<=l.length) :
  PT 185 [.p (ZF x),.p (.list c (l.map ZX)),.p (.int .i64 (n:Nat))] [.p (.list false ((Y1 x l n).map eI)),.p (.int .i64 0)]:=by
 have ho:=hx.ord;refine Zg [15] Tryz.func185 rfl wJ ?_;simp (disch:=omega) only [Tryz.f185,go_sem,seval];refine ZT [15] [1,2,3] (fun q:Nat×List (Bool×List Int)=> [(8,.sl 1 0 q.2.length q.2.length),(9,.p (.int .i64 q.1))]) (fun q=> [Zj x,.elems 1 (q.2.map eR)]) (fun q=>q.1<=x.orders.length/\q.2=Fb x l n q.1) (fun q=>x.orders.length-q.1) (0,[]) (by simp [Fb]) (Weak.ofNil 8 1 rfl Zb (Weak.mk ?_)) ?_
 ·simp (disch:=omega) only [Zj,Zm,ZA,ZQ,ZG,go_sem,seval]
 ·rintro ⟨i,o⟩ ⟨hi,hob⟩;simp only at hi hob
  have hol:o.length<=i:=by grind [TA]
  refine Ve ?_;refine cD ?_ ?_<;>intro h1<;>simp (disch:=omega) only [Sh.out h1,go_sem,seval,↓reduceIte]
  ·have hi2:i<x.orders.length:=Za
   refine Zl [1,2,3,8,9] (fun k:Nat=> [(10,.p (.bool (qO x l n i k))),(11,.p (.bool (M5 l i k))),(12,.p (.int .i64 k))]) (fun _=> [Zj x,.elems 1 (o.map eR)]) (fun k=>k<=l.length) (fun k=>l.length-k) 0 Zb (Weak.mk ?_) ?_
   ·simp (disch:=omega) only [Zj,qO,M5,Nat.zero_min,Y6,UB,List.any_nil,go_sem,seval]
   ·intro k hk;refine Ve ?_;refine cD ?_ ?_<;>intro h2<;>simp (disch:=omega) only [Sh.out h2,go_sem,seval,↓reduceIte]
    ·have hk2:k<l.length:=Za
     have s1:=dF (x:=x) (n:=n) (i:=i) hk2;have s2:=Rl (i:=i) hk2;refine ZD ?_ ?_<;>intro h3
     ·rw [if_neg h3] at s1 s2;exact ⟨k+1,Za,Za,Weak.mk (by simp (disch:=omega) only [s1,s2,go_sem,seval])⟩
     ·have h3':=XF.1 h3;rw [if_pos h3'] at s1 s2;refine ZD ?_ ?_<;>intro h4
      ·rw [if_pos Za] at s1;exact ⟨k+1,Za,Za,Weak.mk (by simp (disch:=omega) only [s1,s2,go_sem,seval])⟩
      ·rw [if_neg Za] at s1;exact ⟨k+1,Za,Za,Weak.mk (by simp (disch:=omega) only [s1,s2,go_sem,seval])⟩
    ·have hkl:k=l.length:=Za
     subst hkl;have s3:=PY (x:=x) (l:=l) (n:=n) (k:=i);rw [lR hn,bE];refine K6 ?_ ?_<;>intro h5
     ·refine ZD ?_ ?_<;>intro h6
      ·rw [h5,h6,Bool.and_self,if_pos rfl] at s3;exact ⟨(i+1,o++ [((nth x.orders i).load_c,(nth x.orders i).load)]),⟨Za,by grind⟩,Za,Weak.mk (by simp (disch:=omega) only [ZI,Zz,ZA,Xx,Zt,Zm,go_sem,seval])⟩
      ·rw [h5,h6,Kn,if_neg Zb,Uj] at s3;exact ⟨(i+1,o),⟨Za,by grind⟩,Za,wk⟩
     ·have h5':Fj x l n i=false:=Za
      rw [h5',U2,if_neg Zb,Uj] at s3;exact ⟨(i+1,o),⟨Za,by grind⟩,Za,wk⟩
  ·have hik:i=x.orders.length:=Za
   subst hik
   have hD:dimsOf x.types=((dimsOf x.types).toNat:Int):=by have:=hx.dim;omega
   have hok:=jJ (l:=l) (n:=n) hx (Zx _);rw [<- hob] at hok;have hs:=TB (x:=x) (l:=l) (n:=n);rw [<- hob] at hs;refine Zr (Weak.fz (o:=1) (by rfl)) (Zf [] _ _ _ _ (VG ?_));refine (T4 x hx.typ).use (Zc ?_);rw [hD];refine X4 (nI o false (dimsOf x.types).toNat (by have:=hx.dim;omega) Za hok) (Zc ?_);rw [<- hs];exact we
def gW (l:List Int):PV:= .list false (l.map eI)
@[go_sem] theorem tW (l:List Int):gW l= .list false (l.map eI):=Zk rfl rfl
def UF (x:Inst) (l:List Vis):List (List Int):=(List.range (l.length+1)).map (Y1 x l)
theorem Ru (x:Inst) (r:Rte) (hx:InstOk x) (hl:r.visits.length<=1048576) (h0:Xk x r.visits=0) (hchk:PC 86 [.p (ZF x),.p (Z0 r)] (.int .i64 (Xk x r.visits))) :
  PT 139 [.p (ZF x),.p (Z0 r)] [.p (.list false ((UF x r.visits).map gW)),.p (.int .i64 0)]:=by
 have hd:=Uy hx;refine Zg [12] Tryz.func139 rfl vG ?_;simp (disch:=omega) only [Tryz.f139,go_sem,seval];refine (hchk).use (Zc ?_);simp (disch:=omega) only [h0,go_sem,seval];refine ZT [12] [2,3] (fun q:Nat×List (List Int)=> [(7,.sl 2 0 q.2.length q.2.length),(8,.p (.int .i64 q.1))]) (fun q=> [Zj x,ZO r,.elems 1 (q.2.map gW)]) (fun q=>q.1<=r.visits.length+1/\q.2=(List.range q.1).map (Y1 x r.visits)) (fun q=>r.visits.length+1-q.1) (0,[]) Zb (Weak.ofNil 7 1 rfl Zb (Weak.mk ?_)) ?_
 ·simp (disch:=omega) only [Zj,ZO,Zm,ZA,ZQ,ZG,go_sem,seval]
 ·rintro ⟨k,o⟩ ⟨hk,ho⟩;simp only at hk ho
  have hol:o.length=k:=by rw [ho];simp
  refine Jk ?_;refine cD ?_ ?_<;>intro h1<;>simp (disch:=omega) only [Sh.out h1,go_sem,seval,↓reduceIte]
  ·refine X4 (Pw x r.visits r.visits_c k hd hl Za) (Zc ?_);exact ⟨(k+1,o++ [Y1 x r.visits k]),⟨Za,by grind [Yj]⟩,Za,Weak.mk (by simp (disch:=omega) only [ZI,Zz,ZA,Xx,Zt,Zm,go_sem,seval])⟩
  ·have hkl:k=r.visits.length+1:=Za
   subst hkl;refine Zr (Weak.fz (o:=2) (by rfl)) (Zf [] _ _ _ _ (VG ?_));rw [UF,<- ho];exact we
theorem aK (x:Inst) (r:Rte) (hx:InstOk x) (hl:r.visits.length<=1048576) (hty:0<=r.typ/\r.typ<(x.types.length:Int)) (h0:Xk x r.visits=0) (hchk:PC 86 [.p (ZF x),.p (Z0 r)] (.int .i64 (Xk x r.visits))) :
  PC 88 [.p (ZF x),.p (Z0 r)] (.int .i64 (if UE x (ZR x r).cap r.visits=true then 0 else 17)):=by
 have hd:=Uy hx;have htl:=hd.typ
 have hti:r.typ.toNat<x.types.length:=Za
 have hcp:(nth x.types r.typ.toNat).cap.length<=3:=by
  have hcap:=hx.types.2 _ hti;unfold KY at hcap;obtain ⟨⟨⟨⟨⟨⟨⟨⟨_,_⟩,_⟩,_⟩,hcap⟩,_⟩,_⟩,_⟩,_⟩:=hcap;simp only [Ub,Zy,Zp,rng] at hcap;omega
 have hll:(UF x r.visits).length=r.visits.length+1:=by simp [UF]
 have hln: ∀k,k<r.visits.length+1->nth (UF x r.visits) k=Y1 x r.visits k:=fun k hk=>by
  grind [Zh,UF]
 have hal: ∀k,(Y1 x r.visits k).length<=3:=fun k=>by rw [Dq];have:=hd.dim;omega
 have cl:=Ru x r hx hl h0 hchk;unfold ZR
 generalize hL:UF x r.visits=L at *
 refine Zd Tryz.func88 rfl Zgc ?_
 have e1: ¬r.typ<0:=Za
 have e2: ¬(x.types.length:Int)<=r.typ:=Za
 simp (disch:=omega) only [Tryz.f88,e1,e2,go_sem,seval];refine X4 cl (Zc ?_);refine Zl [2,3,5] (fun k:Nat=> [(7,.p (.int .i64 k))]) (fun _=> [Zj x,ZO r]) (fun k=>k<=r.visits.length+1/\ ∀j,j<k->Uw (Y1 x r.visits j) (nth x.types r.typ.toNat).cap=true) (fun k=>r.visits.length+1-k) 0 Zb (Weak.mk ?_) ?_
 ·simp (disch:=omega) only [Zj,ZO,go_sem,seval]
 ·rintro k ⟨hk,hno⟩;simp (disch:=omega) only [Zj,ZO,hll,go_sem,seval];refine cD ?_ ?_<;>intro h1<;>simp (disch:=omega) only [Sh.out h1,go_sem,seval,↓reduceIte]
  ·have hk2:k<r.visits.length+1:=Za
   have hk3:k<L.length:=Za
   have hk4:=hal k;refine Xn ?_;simp (disch:=omega) only [hln k hk2,go_sem,seval];refine Zq (aJ (Y1 x r.visits k) (nth x.types r.typ.toNat).cap false (nth x.types r.typ.toNat).cap_c Za Za) (Zc ?_);refine ZD ?_ ?_<;>intro h2
   ·have h2':Uw (Y1 x r.visits k) (nth x.types r.typ.toNat).cap=false:=by grind
    have: ¬UE x (nth x.types r.typ.toNat).cap r.visits=true:=fun h=>by
     grind [UE]
    grind
   ·exact ⟨k+1,⟨Za,Zn.2 ⟨hno,by grind⟩⟩,Za,wk⟩
  ·have:UE x (nth x.types r.typ.toNat).cap r.visits=true:=by
    grind [UE]
   grind
def IF (j:Nat):Int:=if j=63 then-9223372036854775808 else ((pw j:Nat):Int)
theorem Oc {j:Nat} (h:j<63):IF j=((pw j:Nat):Int):=by rw [IF,if_neg Za]
theorem ZaH {j:Nat} (h:j<=62):pw j<=4611686018427387904:=by have:=CF h;rwa [LG] at this
theorem IG {j:Nat} (h:j<=63):0<IF j↔j<63:=by
 grind [IF,eX]
theorem qY {S q:Nat} (hS:S<9223372036854775808) (h:q<=S):IntKind.i64.wrap (q:Int)=(q:Int):=by rw [IntKind.wrap_i64];omega
theorem ZaI {P:Program} {t:TypeId} {S j:Nat} (hS:S<9223372036854775808):XW P .quo t (.p (.int .i64 (S:Int))) (.p (.int .i64 ((pw j:Nat):Int)))=some (.int .i64 ((S / pw j:Nat):Int)):=by
 have hp:=eX j;rw [SZ Za]
 have e:(S:Int).tdiv ((pw j:Nat):Int)=((S / pw j:Nat):Int):=by
  rfl
 have hle:=Nat.div_le_self S (pw j);rw [e,qY hS hle]
theorem mR {P:Program} {t:TypeId} {S:Nat} :XW P .rem t (.p (.int .i64 (S:Int))) (.p (.int .i64 2))=some (.int .i64 ((S%2:Nat):Int)):=by
 rfl
theorem Zg0 {S j:Nat} (hS:S<9223372036854775808):(IntKind.i64.wrap ((S:Int) / ((pw j:Nat):Int))).tmod 2=((S / pw j%2:Nat):Int):=by
 have hle:=Nat.div_le_self S (pw j)
 grind [qY]
theorem cO {P:Program} {t:TypeId} {j:Nat} (h:j<63):XW P .mul t (.p (.int .i64 ((pw j:Nat):Int))) (.p (.int .i64 2))=some (.int .i64 (IF (j+1))):=by
 grind [SX,IF,ZaH,pw,IntKind.wrap_i64]
theorem S4 (t:Typ) (s:Int) (h1:t.skills<9223372036854775808) (h2:s<9223372036854775808):PC 87 [.p (Wq t),.p (.int .i64 s)] (.bool (Wn t s)):=by
 refine Zd Tryz.func87 rfl Zgb ?_;simp (disch:=omega) only [Tryz.f87,go_sem,seval];refine gF ?_ ?_<;>intro c1<;>simp (disch:=omega) only [Sh.out c1,go_sem,seval,↓reduceIte]
 ·grind [Wn]
 ·refine cD ?_ ?_<;>intro c2<;>simp (disch:=omega) only [Sh.out c2,go_sem,seval]
  ·grind [Wn]
  ·obtain ⟨M,hM⟩: ∃M:Nat,t.skills=(M:Int):=⟨t.skills.toNat,Za⟩;obtain ⟨S,rfl⟩: ∃S:Nat,s=(S:Int):=⟨s.toNat,Za⟩
   have hMl:M<9223372036854775808:=Za
   have hSl:S<9223372036854775808:=Za
   have hab: ∀b:Bool,((List.range 63).all fun i=> !S.testBit i||M.testBit i)=b->Wn t (S:Int)=b:=fun b hb=>by
    simp_all [Wn]
   refine Zl [1,2] (fun j:Nat=> [(5,.p (.int .i64 (IF j)))]) (fun _=> [Yg t]) (fun j=>j<=63/\ ∀i,i<j->(!S.testBit i||M.testBit i)=true) (fun j=>63-j) 0 Zb (Weak.mk ?_) ?_
   ·simp (disch:=omega) only [Yg,hM,show IF 0=1 from rfl,go_sem,seval]
   ·rintro j ⟨hj,hno⟩;simp (disch:=omega) only [Yg,hM,go_sem,seval];refine cD ?_ ?_<;>intro c3<;>simp (disch:=omega) only [Sh.out c3,go_sem,seval,↓reduceIte]
    ·have hj2:j<63:=(IG hj).1 c3;simp (disch:=omega) only [Oc hj2,Zg0 hSl,G6,go_sem,seval];refine gT ?_ ?_<;>intro c4<;>simp (disch:=omega) only [Sh.out c4,Oc hj2,ZaI hMl,Zg0 hSl,mR,cO hj2,G6,G5,go_sem,seval]
     ·refine cD ?_ ?_<;>intro c5<;>simp (disch:=omega) only [Sh.out c5,cO hj2,go_sem,seval]
      ·grind
      ·exact ⟨j+1,⟨Za,Zn.2 ⟨hno,by grind⟩⟩,Za,Weak.mk (by simp (disch:=omega) only [hM,go_sem,seval])⟩
     ·exact ⟨j+1,⟨Za,Zn.2 ⟨hno,by grind⟩⟩,Za,Weak.mk (by simp (disch:=omega) only [hM,go_sem,seval])⟩
    ·have hj63:j=63:=by
      rcases Vn j 63 with h | h
      ·simp_all [IG]
      ·omega
     simp_all
theorem MI (l:List Vis) (c:Bool) (n:Nat) (hn:n<l.length) (hl:l.length<=1048576):PC 144 [.p (.list c (l.map ZX)),.p (.int .i64 (n:Nat))] (.bool (VK l n)):=by
 refine Zd Tryz.func144 rfl vL ?_;simp (disch:=omega) only [Tryz.f144,go_sem,seval];refine Zl [0,1] (fun k:Nat=> [(5,.p (.int .i64 k))]) (fun _=> []) (fun k=>k<=n/\ ∀j,j<k->(nth l j).order≠(nth l n).order) (fun k=>n-k) 0 Zb (Weak.mk ?_) ?_
 ·simp (disch:=omega) only [go_sem,seval,↓reduceIte]
 ·rintro k ⟨hk,hno⟩;refine Zc ?_;refine cD ?_ ?_<;>intro h1<;>simp (disch:=omega) only [Sh.out h1,go_sem,seval,↓reduceIte]
  ·have hk2:k<n:=Za
   have hk3:k<l.length:=Za
   refine Xn (Zc ?_);refine cD ?_ ?_<;>intro h2<;>simp (disch:=omega) only [Sh.out h2,go_sem,seval,↓reduceIte]
   ·grind [VK,JH]
   ·exact ⟨k+1,⟨Za,Zn.2 ⟨hno,h2⟩⟩,Za,wk⟩
  ·have hkn:k=n:=Za
   subst hkn
   have:VK l k=true:=by
    unfold VK;rw [XI,Yi];intro v hv;obtain ⟨j,j1,j2,rfl⟩:=J0 hv
    grind
   rw [this]
def BC (c m o w:Int):AM.Obj:= .cells [.p (.int .i64 c),.p (.int .i64 m),.p (.int .i64 o),.p (.int .i64 w)]
theorem AB {x:Inst} {l:List Vis} {t:Int} : ∀n:Nat,(0<=(chgF x l t n).1/\(chgF x l t n).1<=n)/\(0<=(chgF x l t n).2/\(chgF x l t n).2<=n)
 | 0=>by simp [chgF]
 | n+1=>by
  have ih:=AB (x:=x) (l:=l) (t:=t) n
  grind [chgF]
theorem Sf (x:Inst) (r:Rte) (s:She) (hty:0<=r.typ/\r.typ<(x.types.length:Int)) (ho:x.orders.length<=1048576) (ht:x.types.length<=1048576) (hl:r.visits.length<=1048576) (hv:Inr x r.visits)
  (hc:0<=(ZR x r).fixed/\(ZR x r).fixed<=100000/\0<=(ZR x r).perMile/\(ZR x r).perMile<=100/\0<=(ZR x r).perTick/\(ZR x r).perTick<=100) (ho2:0<=(ZR x r).opn/\(ZR x r).opn<=4096)
  (hf: -4096<=s.fin/\s.fin<=8192) (hm:0<=s.miles/\s.miles<=1000000) :
  PC 90 [.p (ZF x),.p (Z0 r),.p (AK s)] (Hi (HR x r s)):=by
 have hti:r.typ.toNat<x.types.length:=Za
 unfold HR;have htd:nth x.types r.typ.toNat=ZR x r:=rfl
 generalize ZR x r=t at *
 have e1: ¬r.typ<0:=Za
 have e2: ¬(x.types.length:Int)<=r.typ:=Za
 have p1:0<=t.perMile*s.miles/\t.perMile*s.miles<=100*1000000:=⟨VL Za Za,Vm Za Za Za Za⟩
 have hW: -8192<=s.fin-t.opn/\s.fin-t.opn<=8192:=Za
 have p2: -819200<=t.perTick*(s.fin-t.opn)/\t.perTick*(s.fin-t.opn)<=819200:=by
  generalize s.fin-t.opn=w at hW;have a1:=B3 hW.2 (show 0<=t.perTick by omega);have a2:=B3 hW.1 (show 0<=t.perTick by omega);omega
 have p3: -128<=(s.fin-t.opn).tdiv 64/\(s.fin-t.opn).tdiv 64<=128:=by
  grind
 have p4:0<=(s.fin-t.opn).tdiv 64*(s.fin-t.opn).tdiv 64/\(s.fin-t.opn).tdiv 64*(s.fin-t.opn).tdiv 64<=16384:=by
  generalize (s.fin-t.opn).tdiv 64=q at p3;refine ⟨?_,?_⟩
  ·rcases Kv 0 q with h | h
   ·exact VL h h
   ·exact Int.mul_nonneg_of_nonpos_of_nonpos h h
  ·rcases Kv 0 q with h | h
   ·have:=Vm p3.2 p3.2 h Za;omega
   ·have h2:0<= -q:=Za
    have:=Vm (show-q<=128 by omega) (show-q<=128 by omega) h2 Za
    grind
 refine Zd Tryz.func90 rfl Zgd ?_;simp (disch:=omega) only [Tryz.f90,e1,e2,htd,go_sem,seval];refine Zl [3,4,6,9] (fun k:Nat=> [(10,.p (.int .i64 k))]) (fun k=> [Zj x,ZO r,.cells [.p (.bool s.rest),.p (.int .i64 s.dep),.p (.list s.times_c (s.times.map eTim)),.p (.int .i64 s.fin),.p (.int .i64 s.miles)],BC 0 0 0 0,Yg t,BC (t.fixed+t.perMile*s.miles+t.perTick*(s.fin-t.opn)) (chgF x r.visits r.typ k).1 (chgF x r.visits r.typ k).2 ((s.fin-t.opn).tdiv 64*(s.fin-t.opn).tdiv 64)]) (fun k=>k<=r.visits.length) (fun k=>r.visits.length-k) 0 Zb (Weak.mk ?_) ?_
 ·simp (disch:=omega) only [Zj,ZO,Yg,BC,chgF,go_sem,seval]
 ·intro k hk;have hch:=AB (x:=x) (l:=r.visits) (t:=r.typ) k;simp (disch:=omega) only [Zj,ZO,Yg,BC,go_sem,seval];refine cD ?_ ?_<;>intro h1<;>simp (disch:=omega) only [Sh.out h1,go_sem,seval,↓reduceIte]
  ·have hk2:k<r.visits.length:=Za
   obtain ⟨v1,v2⟩:=hv _ (Zo hk2)
   have e3: ¬(nth r.visits k).order<0:=Za
   have e4: ¬(x.orders.length:Int)<=(nth r.visits k).order:=Za
   have v3:(nth r.visits k).order.toNat<x.orders.length:=Za
   simp (disch:=omega) only [e3,e4,go_sem,seval];refine (MI r.visits r.visits_c k hk2 hl).use (Zc ?_);have hcs:chgF x r.visits r.typ (k+1)=_:=chgF.eq_2 x r.visits r.typ k;refine ZD ?_ ?_<;>intro h2
   ·have h2': ¬VK r.visits k=true:=by grind
    exact ⟨k+1,Za,Za,Weak.mk (by simp (disch:=omega) only [hcs,if_neg h2',go_sem,seval])⟩
   ·have h2':VK r.visits k=true:=by grind
    refine Xn (Zc ?_);refine gT ?_ ?_<;>intro h3<;>simp (disch:=omega) only [Sh.out h3,go_sem,seval,↓reduceIte]
    ·refine cD ?_ ?_<;>intro h4<;>simp (disch:=omega) only [Sh.out h4,go_sem,seval,↓reduceIte]
     ·have hn:Xg (nth x.orders (nth r.visits k).order.toNat).now r.typ=true:=by simp [Xg,h3,h4]
      refine Xn (Zc ?_);refine K6 ?_ ?_<;>intro h5
      ·refine ZD ?_ ?_<;>intro h6
       ·have hl2:Xg (nth x.orders (nth r.visits k).order.toNat).last r.typ=true:=by simp [Xg,h5,h6]
        exact ⟨k+1,Za,Za,Weak.mk (by simp (disch:=omega) only [hcs,if_pos h2',hn,hl2,go_sem,seval,↓reduceIte])⟩
       ·have hl2:Xg (nth x.orders (nth r.visits k).order.toNat).last r.typ=false:=by simp_all [Xg]
        exact ⟨k+1,Za,Za,Weak.mk (by simp (disch:=omega) only [hcs,if_pos h2',hn,hl2,VM,Yh,go_sem,seval,↓reduceIte])⟩
      ·have hl2:Xg (nth x.orders (nth r.visits k).order.toNat).last r.typ=false:=by simp_all [Xg]
       exact ⟨k+1,Za,Za,Weak.mk (by simp (disch:=omega) only [hcs,if_pos h2',hn,hl2,VM,Yh,go_sem,seval,↓reduceIte])⟩
     ·have hn:Xg (nth x.orders (nth r.visits k).order.toNat).now r.typ=false:=by simp_all [Xg]
      refine Xn (Zc ?_);refine K6 ?_ ?_<;>intro h5
      ·refine ZD ?_ ?_<;>intro h6
       ·have hl2:Xg (nth x.orders (nth r.visits k).order.toNat).last r.typ=true:=by simp [Xg,h5,h6]
        exact ⟨k+1,Za,Za,Weak.mk (by simp (disch:=omega) only [hcs,if_pos h2',hn,hl2,VM,Yh,go_sem,seval,↓reduceIte])⟩
       ·have hl2:Xg (nth x.orders (nth r.visits k).order.toNat).last r.typ=false:=by grind
        exact ⟨k+1,Za,Za,Weak.mk (by simp (disch:=omega) only [hcs,if_pos h2',hn,hl2,VM,Yh,go_sem,seval,↓reduceIte])⟩
      ·have hl2:Xg (nth x.orders (nth r.visits k).order.toNat).last r.typ=false:=by simp_all [Xg]
       exact ⟨k+1,Za,Za,Weak.mk (by simp (disch:=omega) only [hcs,if_pos h2',hn,hl2,VM,Yh,go_sem,seval,↓reduceIte])⟩
    ·have hn:Xg (nth x.orders (nth r.visits k).order.toNat).now r.typ=false:=by simp_all [Xg]
     refine Xn (Zc ?_);refine K6 ?_ ?_<;>intro h5
     ·refine ZD ?_ ?_<;>intro h6
      ·have hl2:Xg (nth x.orders (nth r.visits k).order.toNat).last r.typ=true:=by simp [Xg,h5,h6]
       exact ⟨k+1,Za,Za,Weak.mk (by simp (disch:=omega) only [hcs,if_pos h2',hn,hl2,VM,Yh,go_sem,seval,↓reduceIte])⟩
      ·have hl2:Xg (nth x.orders (nth r.visits k).order.toNat).last r.typ=false:=by simp_all [Xg]
       exact ⟨k+1,Za,Za,Weak.mk (by simp (disch:=omega) only [hcs,if_pos h2',hn,hl2,VM,Yh,go_sem,seval,↓reduceIte])⟩
     ·have hl2:Xg (nth x.orders (nth r.visits k).order.toNat).last r.typ=false:=by grind
      exact ⟨k+1,Za,Za,Weak.mk (by simp (disch:=omega) only [hcs,if_pos h2',hn,hl2,VM,Yh,go_sem,seval,↓reduceIte])⟩
  grind
theorem SqOk.len {x:Inst} {l:List Vis} (h:SqOk x l) (hn:x.orders.length<=10):l.length<=20:=by
 have h1:=List.Nodup.length_le_of_subset (l₁ :=l) (l₂ :=(List.range 10).flatMap fun i:Nat=> [(⟨(i:Int),false⟩:Vis),⟨(i:Int),true⟩]) h.nd (fun v hv=>by
  obtain ⟨v1,v2⟩:=h.inr v hv;rw [W2];refine ⟨v.order.toNat,ZS.2 Za,?_⟩;obtain ⟨o,d⟩:=v
  have e:((o.toNat:Nat):Int)=o:=by grind
  simp_all)
 have h2:((List.range 10).flatMap fun i:Nat=> [(⟨(i:Int),false⟩:Vis),⟨(i:Int),true⟩]).length=20:=rfl;omega
theorem SqOk.vis {x:Inst} {l:List Vis} (h:SqOk x l) {v:Vis} (hv:v∈l):J3 x v=true:=by
 obtain ⟨v1,v2⟩:=h.inr v hv;obtain ⟨i,hi⟩: ∃i:Nat,v.order=(i:Int):=⟨v.order.toNat,Za⟩;have ho:=h.own (i:=i) ⟨v,hv,hi⟩
 have hpl:0<=(stopV x v).place:=by
  unfold stopV;rw [hi,XP]
  cases hd:v.drp with
  | true=>exact ho.isD (by rw [<- hi,<- hd];exact hv)
  | false=>exact ho.isP (by rw [<- hi,<- hd];exact hv)
 simp [J3,OC,v1,v2,hpl]
theorem mJ {x:Inst} {r:Rte} (h:SqOk x r.visits) (hn:x.orders.length<=10) (ht:0<=r.typ/\r.typ<(x.types.length:Int)):VE x r=(decide (0<=r.start)&&decide (r.start<=4096)):=by
 have h1:r.visits.all (J3 x)=true:=Zu.2 fun v hv=>h.vis hv;have h2:=h.len hn
 grind [VE]
theorem lK {n:Net} (h:netOk n):netR n/\ ∀a∈n.arcs,0<=a.miles/\a.miles<=10000:=by
 obtain ⟨⟨⟨h1,_⟩,h2⟩,h3⟩:=h
 have ha: ∀a∈n.arcs,iK a/\0<=a.miles/\a.miles<=10000:=fun a hm=>by
  obtain ⟨i,hi,rfl⟩:=ZW.1 hm;have:=h3 i hi;unfold It at this;rw [Zh hi] at this;obtain ⟨⟨⟨⟨⟨_,g1⟩,_⟩,g2⟩,g3⟩,g4⟩:=this;refine ⟨⟨g2,g3,fun p hp=> ?_⟩,g1.2.2.1,g1.2.2.2.1⟩;obtain ⟨j,hj,rfl⟩:=ZW.1 hp
  simp_all [JW,Zh,HZ,rng]
 exact ⟨⟨Za,Za,fun a hm=>(ha a hm).1⟩,fun a hm=>(ha a hm).2⟩
theorem Qx {x:Inst} (hx:InstOk x) {i:Nat} (hi:i<x.types.length):(0<=(nth x.types i).opn/\(nth x.types i).opn<=(nth x.types i).cls/\(nth x.types i).cls<=4096)/\(1<=(nth x.types i).drive/\(nth x.types i).drive<=4096)/\(0<=(nth x.types i).rest/\(nth x.types i).rest<=4096) /\
  (0<=(nth x.types i).fixed/\(nth x.types i).fixed<=100000/\0<=(nth x.types i).perMile/\(nth x.types i).perMile<=100/\0<=(nth x.types i).perTick/\(nth x.types i).perTick<=100)/\(0<=(nth x.types i).skills/\(nth x.types i).skills<=1073741823):=by
 have ht:=hx.types.2 i hi
 simp_all [KY,rng]
theorem Qw {x:Inst} {r:Rte} (hx:InstOk x) (ht:0<=r.typ/\r.typ<(x.types.length:Int)) (h:SqOk x r.visits):TrpOk x (ZR x r) (Xs x r.visits):=by
 have hti:r.typ.toNat<x.types.length:=Za
 obtain ⟨t1,t2,t3,_⟩:=Qx hx hti;obtain ⟨n1,n2⟩:=lK hx.net;refine ⟨n1,n2,t1,t2,t3,fun s hs=> ?_,by rw [X0];exact h.len hx.orders.1⟩;obtain ⟨v,hv,rfl⟩:=XM.1 hs;obtain ⟨v1,v2⟩:=h.inr v hv
 have hi:v.order.toNat<x.orders.length:=Za
 have ho:=hx.orders.2 _ hi;have hvis:=h.vis hv;have hp:=ho.pstp;have hd:=ho.dstp;simp only [stpOk,Zp] at hp hd;simp only [J3,Zy,Zp] at hvis;have h3:=hvis.2;unfold stopV at h3 ⊢
 grind
theorem LR {x t sp} (h:TrpOk x t sp): ∀(bs:List Bool) (k:Nat) (L:Lab),k+bs.length=sp.length+1->LabR k L->(Xu x t sp k L bs).2=0->LabR (sp.length+1) (Xu x t sp k L bs).1/\(bs≠ []->(Xu x t sp k L bs).1.she.fin=(Xu x t sp k L bs).1.ready)
 | [],k,L,hk,hl,h0=>by
  simp at hk;subst hk;exact ⟨hl,fun h=>absurd rfl h⟩
 | b::bs,k,L,hk,hl,h0=>by
  simp at hk;rw [Xu] at h0 ⊢
  split at h0
  ·rename_i c;rw [if_pos c];obtain ⟨h1,h2⟩:=LR h bs (k+1) _ Za (HA h Za hl c) h0;refine ⟨h1,fun _=> ?_⟩
   cases bs with
   | nil =>
    simp at hk;subst hk;exact Lv (x:=x) (t:=t) (sp:=sp) (y:=L) (b:=b) (by rw [XL,if_pos c];rfl)
   | cons b2 bs=>grind
  omega
theorem DC {x t sp} {st:Int} {r:List Bool} (h:TrpOk x t sp) (hs:0<=st/\st<=4096) (hr:r.length<=sp.length+1) (h0:(V9 x t sp st r).2=0):(0<=(V9 x t sp st r).1.fin/\(V9 x t sp st r).1.fin<=8192)/\(0<=(V9 x t sp st r).1.miles/\(V9 x t sp st r).1.miles<=210000):=by
 have hL0:LabR 0 (Xy t st):=⟨by have:=h.opn;grind [Xy],by simp [Xy],by simp [Xy,zShe]⟩;have hl:=h.len
 have key: ∀bs∈YP r (sp.length+1),(Xu x t sp 0 (Xy t st) bs).2=0->(0<=(Xu x t sp 0 (Xy t st) bs).1.she.fin/\(Xu x t sp 0 (Xy t st) bs).1.she.fin<=8192)/\(0<=(Xu x t sp 0 (Xy t st) bs).1.she.miles/\(Xu x t sp 0 (Xy t st) bs).1.she.miles<=210000):=fun bs hbs he=>by
  obtain ⟨q,hq,rfl⟩:=XM.1 hbs;have hql:=bestF_len.fromB_len _ _ hq;simp at hql
  have hne:r++q≠ []:=fun e=>by
   simp_all
  obtain ⟨g1,g2⟩:=LR h (r++q) 0 _ (by simp;omega) hL0 he;rw [g2 hne];have:=g1.rdy;have:=g1.mil;omega
 unfold V9 at h0 ⊢
 cases hf:Vb Y3 none ((YP r (sp.length+1)).filterMap (Va (XL x t sp) 0 (Xy t st))) with
 | some L =>
  simp only;have:=bestF_len.fmL_mem _ _ hf
  grind [VF]
 | none =>
  grind [zShe]
theorem PQ (x:Inst) (r:Rte) (ho:x.orders.length<=1048576) (ht:x.types.length<=1048576) (hl:r.visits.length<=1048576) (hbad:VE x r=false\/r.visits.length+1<r.rests.length) :
  PT 89 [.p (ZF x),.p (Z0 r)] [.p (AK zShe),.p (.int .i64 2)]:=by
 refine Zg [] Tryz.func89 rfl qG ?_;simp (disch:=omega) only [Tryz.f89,go_sem,seval];refine (En x r ho ht hl).use (Zc ?_);refine gF ?_ ?_<;>intro h1<;>simp (disch:=omega) only [Sh.out h1,go_sem,seval,↓reduceIte]
 ·exact we (by simp (disch:=omega) only [zShe,Zm,go_sem,seval])
 ·have h2:r.visits.length+1<r.rests.length:=hbad.resolve_left (by grind);refine cD ?_ ?_<;>intro h3<;>simp (disch:=omega) only [Sh.out h3,go_sem,seval,↓reduceIte]
  ·exact we (by simp (disch:=omega) only [zShe,Zm,go_sem,seval])
  ·omega
theorem jO (x:Inst) (r:Rte) (hx:InstOk x) (hl:r.visits.length<=1048576):PC 86 [.p (ZF x),.p (Z0 r)] (.int .i64 (Xk x r.visits)):=by
 have hf:=V3 hx;have hr:=hx.rules;obtain ⟨h1,h2⟩:=U0.1 hr
 have ha:x.apart.length<=1048576:=by
  have h3:=(U0.1 h1).1
  grind [Mo]
 have hb:x.before.length<=1048576:=by
  have h3:=(U0.1 h2).1
  grind [Mo]
 have:=NB x r (by have:=hf.len;omega) hl ha hb hf.plc
 grind [mQ]
def AL (x:Inst) (r:Rte):V:= .tup [.p (AK (Xc x r)),.p (Hi (X2 x r)),.p (.int .i64 (evalE x r))]
theorem Yl {x:Inst} {r:Rte} {e:Int} (h:evalE x r=e) (h0:e≠0):AL x r= .tup [.p (AK zShe),.p (Hi zSco),.p (.int .i64 e)]:=by
 simp_all [AL,Xc,X2]
theorem AN (x:Inst) (r:Rte) (hx:InstOk x) (hl:r.visits.length<=1048576) (hrl:r.rests.length<=1048576):ACalls Tryz.prog 48 [.p (ZF x),.p (Z0 r)] [] fun y H'=>y=AL x r/\H'= []:=by
 have hld:=Uy hx;have htl:=hld.typ;have hol:=hld.ord;have chk:=jO x r hx hl
 have htb:x.types.length<=6:=by have:=hx.types.1;simp only [rng,Zp] at this;omega
 refine Zg [] Tryz.func48 rfl ZfT ?_;simp (disch:=omega) only [Tryz.f48,go_sem,seval];refine gF ?_ ?_<;>intro h1<;>simp (disch:=omega) only [Sh.out h1,go_sem,seval,↓reduceIte]
 ·have e:X7 x r=2:=by rw [X7,if_pos Za]
  rw [Yl (e:=2) (by rw [evalE,e];rfl) Za];exact we (by simp (disch:=omega) only [zShe,zSco,Zm,go_sem,seval])
 ·refine cD ?_ ?_<;>intro h2<;>simp (disch:=omega) only [Sh.out h2,go_sem,seval,↓reduceIte]
  ·have e:X7 x r=2:=by simp_all [X7]
   rw [Yl (e:=2) (by rw [evalE,e];rfl) Za];exact we (by simp (disch:=omega) only [zShe,zSco,Zm,go_sem,seval])
  ·have hty:0<=r.typ/\r.typ<(x.types.length:Int):=Za
   have hti:r.typ.toNat<x.types.length:=Za
   refine (chk).use (Zc ?_);refine cD ?_ ?_<;>intro h3<;>simp (disch:=omega) only [Sh.out h3,go_sem,seval,↓reduceIte]
   ·have e:X7 x r=Xk x r.visits:=by simp_all [X7]
    rw [Yl (e:=Xk x r.visits) (by simp_all [evalE]) h3];exact we (by simp (disch:=omega) only [zShe,zSco,Zm,go_sem,seval])
   ·have h3':=XF.1 h3;have hsq:=W6 h3'
    have hvn:0<r.visits.length:=by
     have:=hsq.ne
     grind
    have hok:=Qw hx hty hsq;have hnum:=Qx hx hti
    have hr0:X7 x r=if (r.visits.any fun v=> !Wn (ZR x r) (nth x.orders v.order.toNat).skills)=true then 18 else if UE x (ZR x r).cap r.visits=false then 17 else if ¬(0<=r.start/\r.start<=4096/\r.rests.length<=r.visits.length+1) then 2 else 0:=by
     rw [X7,if_neg (fun h=>h hty),if_neg h3]
    have htyp:nth x.types r.typ.toNat=ZR x r:=rfl;rw [htyp] at hnum;have hf17:=aK x r hx hl hty h3' chk;have hposs:=mJ hsq hol hty
    have hsk: ∀k,k<r.visits.length->(nth r.visits k).order.toNat<x.orders.length/\0<=(nth x.orders (nth r.visits k).order.toNat).skills/\(nth x.orders (nth r.visits k).order.toNat).skills<=1073741823:=fun k hk=>by
     obtain ⟨v1,v2⟩:=hsq.inr _ (Zo hk)
     have hi:(nth r.visits k).order.toNat<x.orders.length:=Za
     exact ⟨hi,(hx.orders.2 _ hi).skills⟩
    refine Zl [2,3,4,5] (fun k:Nat=> [(8,.p (.int .i64 k))]) (fun _=> [Zj x,ZO r,.cells [.p (.bool false),.p (.int .i64 0),.p (.list true []),.p (.int .i64 0),.p (.int .i64 0)],BC 0 0 0 0])
     (fun k=>k<=r.visits.length/\ ∀j,j<k->Wn (ZR x r) (nth x.orders (nth r.visits j).order.toNat).skills=true) (fun k=>r.visits.length-k) 0 Zb (Weak.mk ?_) ?_
    ·simp (disch:=omega) only [Zj,ZO,BC,go_sem,seval]
    ·rintro k ⟨hk,hno⟩;simp (disch:=omega) only [Zj,ZO,BC,go_sem,seval];refine cD ?_ ?_<;>intro h4<;>simp (disch:=omega) only [Sh.out h4,go_sem,seval,↓reduceIte]
     ·have hk2:k<r.visits.length:=Za
      obtain ⟨s1,s2,s3⟩:=hsk k hk2;obtain ⟨v1,v2⟩:=hsq.inr _ (Zo hk2);refine Xn ?_;simp (disch:=omega) only [htyp,go_sem,seval];refine Zq (S4 (ZR x r) (nth x.orders (nth r.visits k).order.toNat).skills Za Za) (Zc ?_);refine ZD ?_ ?_<;>intro h5
      ·have e:X7 x r=18:=by
        rw [hr0,if_pos]
        grind [Zo]
       rw [Yl (e:=18) (by rw [evalE,e];rfl) Za];exact we (by simp (disch:=omega) only [zShe,zSco,Zm,go_sem,seval])
      ·exact ⟨k+1,⟨Za,Zn.2 ⟨hno,by grind⟩⟩,Za,wk⟩
     ·have hkl:k=r.visits.length:=Za
      subst hkl
      have X9: ¬(r.visits.any fun v=> !Wn (ZR x r) (nth x.orders v.order.toNat).skills)=true:=fun h=>by
       obtain ⟨v,hv,hb⟩:=W1.1 h;obtain ⟨j,hj,rfl⟩:=ZW.1 hv
       grind [Zh]
      rw [if_neg X9] at hr0;refine (hf17).use (Zc ?_)
      cases hlb:UE x (ZR x r).cap r.visits with
      | false =>
       have e:X7 x r=17:=by grind
       simp only [Yh,Yq];refine Zc ?_;rw [Yl (e:=17) (by rw [evalE,e];rfl) Za];exact we (by simp (disch:=omega) only [zShe,zSco,Zm,go_sem,seval])
      | true =>
       rw [hlb,if_neg Zb] at hr0;simp only [if_true];refine Zc ?_
       by_cases h6:0<=r.start/\r.start<=4096/\r.rests.length<=r.visits.length+1
       ·have e:X7 x r=0:=Za
        have hp:VE x r=true:=by grind
        have ee:evalE x r=(Xl x r).2:=by rw [evalE,if_pos e]
        have cb:=Tw x r hok Za htl hvn hp h6.2.2;have hbr:=DC hok ⟨h6.1,h6.2.1⟩ (by rw [X0];exact h6.2.2);have hbr:(Xl x r).2=0->_:=hbr
        change (Xl x r).2=0->(0<=(Xl x r).1.fin/\(Xl x r).1.fin<=8192)/\(0<=(Xl x r).1.miles/\(Xl x r).1.miles<=210000) at hbr
        have es:Xc x r=if (Xl x r).2=0 then (Xl x r).1 else zShe:=by rw [Xc,ee]
        have ep:X2 x r=if (Xl x r).2=0 then HR x r (Xl x r).1 else zSco:=by rw [X2,ee]
        unfold AL;rw [ee,es,ep];clear ee es ep
        generalize Xl x r=q at *
        obtain ⟨sh,eb⟩:=q;simp only at cb hbr ⊢;refine X4 cb (Zc ?_);refine cD ?_ ?_<;>intro h7<;>simp (disch:=omega) only [Sh.out h7,go_sem,seval,↓reduceIte]
        ·exact we (by simp (disch:=omega) only [zShe,zSco,Zm,go_sem,seval])
        ·have h7':=XF.1 h7
         try rw [if_pos h7',if_pos h7']
         subst h7';obtain ⟨g1,g2⟩:=hbr rfl;refine Z5 5 mixed Ze Ze (Zc ?_);refine Zq (Sf x r sh hty Za htl hl hsq.inr hnum.2.2.2.1 Za Za Za) (Zc ?_);exact we
       ·have e:X7 x r=2:=Za
        rw [Yl (e:=2) (by rw [evalE,e];rfl) Za];refine X4 (PQ x r Za htl hl ?_) ?_
        ·grind
        ·refine Zc ?_;exact we (by simp (disch:=omega) only [zShe,zSco,Zm,go_sem,seval])
theorem Sz (x:Inst) (r:Rte) (hx:InstOk x) (hl:r.visits.length<=1048576) (hrl:r.rests.length<=1048576):PC 46 [.p (ZF x),.p (Z0 r)] (.int .i64 (evalE x r)):=by
 have ce:=AN x r hx hl hrl;refine Zd Tryz.func46 rfl ZfR ?_;simp (disch:=omega) only [Tryz.f46,go_sem,seval];unfold AL at ce;refine Mh ce ?_;simp (disch:=omega) only [go_sem,seval,↓reduceIte]
theorem ZaP {p q:Pt} {t:Int} (h1:p.t<=t) (h2:t<q.t) (hp:p.t<=p.a) (hq:q.t<=q.a):t<=Fv p q t:=by
 unfold Fv
 have hw:0<q.t-p.t:=Za
 have key:(t-p.a)*(q.t-p.t)<=(t-p.t)*(q.a-p.a)+q.t-p.t-1:=by
  have e:(t-p.t)*(q.a-p.a)-(t-p.a)*(q.t-p.t)=(t-p.t)*(q.a-q.t)+(p.a-p.t)*(q.t-t):=by
   grind
  have h3:0<=(t-p.t)*(q.a-q.t):=VL Za Za;have h4:0<=(p.a-p.t)*(q.t-t):=VL Za Za;omega
 have:=Int.le_ediv_of_mul_le hw key;omega
theorem iN {l:List Pt} {t:Int} (hl:Ww l):t<=QH l t:=by
 obtain ⟨⟨hl1,hl2⟩,hpt⟩:=hl;unfold QH
 split
 ·rename_i i hi;have hm:=QX hi;have hs:=Uz hi;simp at hm;simp only [U8,Zy,Zp] at hs;obtain ⟨⟨p1,p2,p3,p4⟩,_⟩:=hpt i Za;obtain ⟨⟨q1,q2,q3,q4⟩,q5⟩:=hpt (i+1) Za
  simp_all [ZaP]
 ·obtain ⟨⟨p1,p2,p3,p4⟩,_⟩:=hpt 0 Za;obtain ⟨⟨q1,q2,q3,q4⟩,_⟩:=hpt (l.length-1) Za;omega
theorem Hr {n:Net} {pr f t τ:Int} (hn:netR n) (h:(V2 n pr f t τ).2.2=0):τ<=(V2 n pr f t τ).1:=by
 unfold V2 at h ⊢
 split at h
 ·simp at h
 ·rename_i c1;rw [if_neg c1]
  split at h
  ·grind
  ·rename_i c2;rw [if_neg c2]
   split at h
   ·rename_i c3;rw [if_pos c3];have hA:=Kg c3;have h1:=iN (t:=τ) (hn.2.2 _ hA).1;have h2:=Qs (t:=τ) (fun p hp=>((hn.2.2 _ hA).2.2 p hp).2.2) _ (Zx _)
    grind [GY]
   ·simp at h
theorem FJ {x t sp} {st:Int} {r:List Bool} (hr:r.length<=sp.length+1) (h:(V9 x t sp st r).2=0): ∃bs:List Bool,bs.length=sp.length+1/\(Xu x t sp 0 (Xy t st) bs).2=0/\(V9 x t sp st r).1=(Xu x t sp 0 (Xy t st) bs).1.she:=by
 unfold V9 at h ⊢
 cases hf:Vb Y3 none ((YP r (sp.length+1)).filterMap (Va (XL x t sp) 0 (Xy t st))) with
 | none =>
  rw [hf] at h;simp only at h ⊢;exfalso
  have hm:YY r (sp.length+1)∈YP r (sp.length+1):=by
   grind [YP,YY,fromB_next]
  have h2:Va (XL x t sp) 0 (Xy t st) (YY r (sp.length+1))=some (Xu x t sp 0 (Xy t st) (YY r (sp.length+1))).1:=by rw [VF,if_pos h]
  have h3:(Xu x t sp 0 (Xy t st) (YY r (sp.length+1))).1∈(YP r (sp.length+1)).filterMap (Va (XL x t sp) 0 (Xy t st)):=A7.2 ⟨_,hm,h2⟩;generalize (YP r (sp.length+1)).filterMap (Va (XL x t sp) 0 (Xy t st))=l at hf h3
  cases l with
  | nil=>simp at h3
  | cons a l =>
   rw [Vb] at hf;obtain ⟨z,e,_⟩:=Qg Y3 l a
   grind
 | some L =>
  simp only;have hm:=bestF_len.fmL_mem _ _ hf;obtain ⟨bs,hbs,hrun⟩:=A7.1 hm;rw [VF] at hrun
  split at hrun
  ·rename_i h5;simp at hrun;subst hrun;obtain ⟨q,hq,rfl⟩:=XM.1 hbs;have hql:=bestF_len.fromB_len _ _ hq
   grind
  ·cases hrun
theorem Ol {n:Nat} (h:n<10):dec n= [UInt8.ofNat (48+n)]:=by rw [dec,dif_pos h]
theorem kA {n:Nat} (h:10<=n) (h2:n<100):dec n= [UInt8.ofNat (48+n / 10),UInt8.ofNat (48+n%10)]:=by
 rw [dec,dif_neg Za,Ol Za];rfl
theorem Iu {s:List UInt8} {k k':IntKind} {a b:Int} (h:0<=a/\a<=b/\b<=(s.length:Int)):G0 (some .string) s (.p (.int k a)) (.p (.int k' b))=some (.p (.str ((s.take b.toNat).drop a.toNat))):=by
 simp_all [G0]
def digT : List UInt8:=(List.range 36).map fun i=>UInt8.ofNat (if i<10 then 48+i else 87+i)
def smalT : List UInt8:=(List.range 100).flatMap fun i=> [UInt8.ofNat (48+i / 10),UInt8.ofNat (48+i%10)]
theorem kB : ∀n,n<10->(digT.take (n+1)).drop n= [UInt8.ofNat (48+n)]:=by decide
theorem fP : ∀n,n<100->(smalT.take (2*n+2)).drop (2*n)= [UInt8.ofNat (48+n / 10),UInt8.ofNat (48+n%10)]:=by decide+kernel
theorem nC (n:Nat) (hn:n<100):PC 331 [.p (.int .i64 (n:Int))] (.str (dec n)):=by
 refine Zd Tryz.func331 rfl Zah ?_;simp (disch:=omega) only [Tryz.f331,go_sem,seval];refine cD ?_ ?_<;>intro h<;>simp (disch:=omega) only [Sh.out h,go_sem,seval]
 ·rw [Ol Za,Iu (by simp;omega)]
  have e1:((n:Int)+1).toNat=n+1:=Za
  have e2:((n:Int)).toNat=n:=Za
  rw [e1,e2];refine (ZV (fun z=>CO (some (V.p (PV.str z))) _) (kB n Za)).mpr ?_;simp (disch:=omega) only [go_sem,seval]
 ·rw [kA Za hn,Iu (by simp;omega)]
  have e1:((n:Int)*2+2).toNat=2*n+2:=Za
  have e2:((n:Int)*2).toNat=2*n:=Za
  rw [e1,e2];refine (ZV (fun z=>CO (some (V.p (PV.str z))) _) (fP n Za)).mpr ?_;simp (disch:=omega) only [go_sem,seval]
theorem aV (n:Nat) (hn:n<100):PC 330 [.p (.int .i64 (n:Int)),.p (.int .i64 10)] (.str (dec n)):=by
 refine Zd Tryz.func330 rfl Zag ?_
 have h0:(0:Int)<=(n:Int):=Za
 have h1:(n:Int)<100:=Za
 simp (disch:=omega) only [Tryz.f330,h0,h1,go_sem,seval];refine (nC n hn).use ?_;simp (disch:=omega) only [go_sem,seval]
theorem kY (n:Nat) (hn:n<100):PC 329 [.p (.int .i64 (n:Int))] (.str (dec n)):=by
 refine Zd Tryz.func329 rfl Zaf ?_;simp (disch:=omega) only [Tryz.f329,go_sem,seval];refine (aV n hn).use ?_;simp (disch:=omega) only [go_sem,seval]
theorem Zai (n:Nat) (hn:n<100):PC 328 [.p (.int .i64 (n:Int))] (.str (dec n)):=by
 refine Zd Tryz.func328 rfl Zae ?_;simp (disch:=omega) only [Tryz.f328,go_sem,seval];refine (kY n hn).use ?_;simp (disch:=omega) only [go_sem,seval]
theorem Mi (n a b:Int):PC 321 [.p (.int .i64 n),.p (.int .i64 a),.p (.int .i64 b)] (.bool (decide (a<=n)&&decide (n<=b))):=by
 refine Zd Tryz.func321 rfl zX ?_;simp (disch:=omega) only [Tryz.f321,go_sem,seval]
 repeat' (first | (refine gT ?_ ?_<;>intro hq<;>simp (disch:=omega) only [Sh.out hq,go_sem,seval,↓reduceIte]) | (refine V6 (fun hq=> ?_) (fun hq=> ?_)<;>(try simp only [Zp,Yc,XF] at hq)<;>simp (disch:=omega) only [Sh.out hq,go_sem,seval]) | (refine QD (fun hq=> ?_) (fun hq=> ?_)<;>(try simp only [Zp,Yc,XF] at hq)<;>simp (disch:=omega) only [Sh.out hq,go_sem,seval]))
 all_goals (simp;first | done | omega)
theorem dS (l:List Pt) (c:Bool) (hl:Ww l):PC 325 [.p (.list c (l.map FS))] (.list true []):=by
 obtain ⟨⟨hl1,hl2⟩,hpt⟩:=hl;refine Zd Tryz.func325 rfl Zab ?_
 have e1: ¬(l.length:Int)=0:=Za
 have e2: ¬(16:Int)<(l.length:Int):=Za
 simp (disch:=omega) only [Tryz.f325,e1,e2,go_sem,seval];refine Zl [0,19,20] (fun k:Nat=> [(3,.p (.list true [])),(21,.p (.int .i64 k))]) (fun _=> []) (fun k=>k<=l.length) (fun k=>l.length-k) 0 Zb (Weak.mk ?_) ?_
 ·simp (disch:=omega) only [go_sem,seval,↓reduceIte]
 ·intro k hk;refine Zc ?_;refine cD ?_ ?_<;>intro h<;>simp (disch:=omega) only [Sh.out h,go_sem,seval,↓reduceIte]
  ·have hk2:k<l.length:=Za
   obtain ⟨⟨p1,p2,p3,p4⟩,q⟩:=hpt k hk2;refine (Zai k Za).use (Zc ?_);refine (Mi (nth l k).t 0 4096).use (Zc ?_);simp (disch:=omega) only [p1,p2,go_sem,seval];refine gF ?_ ?_<;>intro h3<;>simp (disch:=omega) only [Sh.out h3,go_sem,seval,↓reduceIte]
   ·omega
   ·refine cD ?_ ?_<;>intro h4<;>simp (disch:=omega) only [Sh.out h4,go_sem,seval,↓reduceIte]
    ·omega
    ·refine Xn (Zc ?_);refine gT ?_ ?_<;>intro h5<;>simp (disch:=omega) only [Sh.out h5,go_sem,seval,↓reduceIte]
     ·obtain ⟨r1,r2⟩:=q Za;refine gF ?_ ?_<;>intro h6<;>simp (disch:=omega) only [Sh.out h6,go_sem,seval,↓reduceIte]
      ·omega
      ·refine cD ?_ ?_<;>intro h7<;>simp (disch:=omega) only [Sh.out h7,go_sem,seval,↓reduceIte]
       ·omega
       ·exact ⟨k+1,Za,Za,wk⟩
     ·exact ⟨k+1,Za,Za,wk⟩
theorem Oi (p:Pt) (t:Int) (h:0<=p.t/\p.t<=4096) (ht:0<=t/\t<=1073741824):PC 327 [.p (FS p),.p (.int .i64 t)] (.int .i64 (p.t-t)):=by
 refine Zd Tryz.func327 rfl Zad ?_;simp (disch:=omega) only [Tryz.f327,go_sem,seval,↓reduceIte]
theorem mS (l:List Pt) (c:Bool) (hl:Ww l):PC 322 [.p (.list c (l.map FS))] (.bool true):=by
 refine Zd Tryz.func322 rfl zY ?_;simp (disch:=omega) only [Tryz.f322,go_sem,seval];refine (dS l c hl).use ?_;simp (disch:=omega) only [go_sem,seval]
structure PosT (l:List Pt) (t:Int) (i:Nat):Prop where
 le:i<=l.length
 lo: ∀j,j<i->(nth l j).t<t
 hi: ∀j,i<=j->j<l.length->t<=(nth l j).t
theorem Ze6 (l:List Pt) (c:Bool) (t:Int) (i:Nat) (hl:Ww l) (ht:0<=t/\t<=1073741824) (hi:PosT l t i):PT 326 [.p (.list c (l.map FS)),.p (.int .i64 t),.fn (.func 327) [] []] [.p (.int .i64 (i:Int)),.p (.bool (decide (i<l.length)&&decide ((nth l i).t=t)))]:=by
 obtain ⟨⟨hl1,hl2⟩,hpt⟩:=hl;obtain ⟨hi1,hi2,hi3⟩:=hi;refine Zg [] Tryz.func326 rfl Zac ?_;simp (disch:=omega) only [Tryz.f326,go_sem,seval];refine Zl [0,1,2,8] (fun q:Nat×Nat=> [(9,.p (.int .i64 q.1)),(10,.p (.int .i64 q.2))]) (fun _=> []) (fun q=>q.1<=i/\i<=q.2/\q.2<=l.length) (fun q=>q.2-q.1) (0,l.length) (by simp;omega) (Weak.mk ?_) ?_
 ·simp (disch:=omega) only [go_sem,seval,↓reduceIte]
 ·rintro ⟨a,b⟩ ⟨h1,h2,h3⟩;simp only at h1 h2 h3;refine Zc ?_;refine cD ?_ ?_<;>intro h<;>simp (disch:=omega) only [Sh.out h,go_sem,seval,↓reduceIte]
  ·have hm:(a+b) / 2<l.length:=Za
   obtain ⟨⟨p1,p2,p3,p4⟩,q⟩:=hpt _ hm
   have hs:((a:Int)+(b:Int)).fdiv (2^min 1 64)=(((a+b) / 2:Nat):Int):=by
    grind
   have em:((((a+b) / 2:Nat)):Int).toNat=(a+b) / 2:=Za
   have hnb:((a+b) / 2<i)↔(nth l ((a+b) / 2)).t-t<0:=by
    grind
   rw [hs];refine Zc ?_;refine (Oi (nth l ((a+b) / 2)) t ⟨p1,p2⟩ ht).use (Zc ?_);refine cD ?_ ?_<;>intro h4<;>simp (disch:=omega) only [Sh.out h4,go_sem,seval,↓reduceIte]
   ·exact ⟨((a+b) / 2+1,b),⟨Za,h2,h3⟩,Za,wk⟩
   ·exact ⟨(a,(a+b) / 2),⟨h1,Za,Za⟩,Za,wk⟩
  ·have:a=i:=Za
   subst this;refine gT ?_ ?_<;>intro h4<;>simp (disch:=omega) only [Sh.out h4,go_sem,seval,↓reduceIte]
   ·have hm:a<l.length:=Za
    obtain ⟨⟨p1,p2,p3,p4⟩,q⟩:=hpt _ hm;refine (Oi (nth l a) t ⟨p1,p2⟩ ht).use (Zc ?_);have e5:((nth l a).t-t=0)=((nth l a).t=t):=propext Za;exact we (by simp (disch:=omega) only [e5,hm,go_sem,seval])
   ·have hm: ¬a<l.length:=Za
    exact we (by simp (disch:=omega) only [hm,go_sem,seval])
theorem Bv {l:List Pt} (hl:Ww l) {k:Nat} (hk:k<l.length): ∀j,j<k->(nth l j).t<(nth l k).t:=by
 obtain ⟨_,hpt⟩:=hl
 induction k with
 | zero=>omega
 | succ k ih =>
  intro j hj;obtain ⟨_,q⟩:=hpt (k+1) hk
  grind
theorem mH {l:List Pt} (hl:Ww l) (t:Int): ∃i,PosT l t i:=by
 have: ∀n,n<=l.length-> ∃i,i<=n/\(∀j,j<i->(nth l j).t<t)/\(i<n->t<=(nth l i).t):=by
  intro n
  induction n with
  | zero=>simp
  | succ n ih =>
   grind
 obtain ⟨i,h1,h2,h3⟩:=this l.length (Zx _);refine ⟨i,h1,h2,fun j hj hjl=> ?_⟩;rcases Nat.lt_or_eq_of_le hj with h | h
 ·have:=Bv hl hjl i h;omega
 grind
theorem iM {l:List Pt} {t:Int} {i:Nat} (hl:Ww l) (h:PosT l t i) (hi:i<l.length) (e:(nth l i).t=t):QH l t=(nth l i).a:=by
 by_cases g:i+1<l.length
 ·have m:=Bv hl g i Za;rw [GZ g (fun j hj=> ?_) (by grind [U8]),Fv]
  ·rw [e,Int.sub_self,Int.zero_mul,Int.zero_add];rw [Int.ediv_eq_zero_of_lt Za Za];omega
  ·have:(nth l (j+1)).t<=t:=by
    rcases Nat.lt_or_eq_of_le (show j+1<=i by omega) with h1 | h1
    ·have:=h.lo _ h1;omega
    grind
   simp [U8];omega
 ·have hi1:i=l.length-1:=Za
  rw [CS (fun j hj=> ?_)]
  ·split
   ·grind
   ·have:i=0:=by
     by_cases g2:i=0
     ·exact g2
     ·have:=h.lo 0 Za;omega
    grind
  ·have:(nth l (j+1)).t<=t:=by
    rcases Nat.lt_or_eq_of_le (show j+1<=i by omega) with h1 | h1
    ·have:=h.lo _ h1;omega
    grind
   simp [U8];omega
theorem iP {l:List Pt} {t:Int} (hl:Ww l) (h:PosT l t 0) (e: ¬(nth l 0).t=t):QH l t=t+(nth l 0).a-(nth l 0).t:=by
 have h0:=h.hi 0 (Zx _) hl.1.1;rw [CS (fun j hj=> ?_),if_neg Za]
 have:t<(nth l j).t:=by
  by_cases g:j=0
  ·grind
  ·have:=Bv hl (show j<l.length by omega) 0 Za;omega
 simp [U8];omega
theorem iO {l:List Pt} {t:Int} (h:PosT l t l.length) (hl:0<l.length):QH l t=t+(nth l (l.length-1)).a-(nth l (l.length-1)).t:=by
 rw [CS (fun j hj=> ?_),if_pos (h.lo 0 hl)];have:=h.lo (j+1) hj;simp [U8];omega
theorem Tj {l:List Pt} {t:Int} {i:Nat} (h:PosT l t i) (h0:0<i) (hi:i<l.length) (e: ¬(nth l i).t=t):QH l t=Fv (nth l (i-1)) (nth l i) t:=by
 have e1:i-1+1=i:=Za
 have h1:=h.lo (i-1) Za;have h2:=h.hi i (Zx _) hi;have:=GZ (l:=l) (t:=t) (i:=i-1) Za (fun j hj=>by have:=h.lo (j+1) Za;simp [U8];omega) (by grind [U8]);rw [this,e1]
theorem GB {p q:Pt} {t:Int} (h1:p.t<=t) (h2:t<q.t) (hp:0<=p.t) (hq:q.t<=4096) (ha:p.a<=q.a) (hpa:0<=p.a) (hqa:q.a<=8192) :
  IntKind.i64.wrap (p.a+IntKind.i64.wrap ((IntKind.i64.wrap (IntKind.i64.wrap (IntKind.i64.wrap ((t-p.t)*(q.a-p.a))+(q.t-p.t))-1)).tdiv (q.t-p.t)))=Fv p q t:=by
 have hm:=EF h1 h2 hp hq ha hpa hqa;unfold Fv;generalize hM:(t-p.t)*(q.a-p.a)=m at hm
 have hd:0<=(m+(q.t-p.t)-1) / (q.t-p.t)/\(m+(q.t-p.t)-1) / (q.t-p.t)<=m+(q.t-p.t)-1:=by
  refine ⟨Int.ediv_nonneg Za Za,Int.ediv_le_self _ Za⟩
 rw [IntWalk.i64_in m Za,IntWalk.i64_in (m+(q.t-p.t)) Za,IntWalk.i64_in (m+(q.t-p.t)-1) Za,Int.tdiv_eq_ediv_of_nonneg Za,IntWalk.i64_in ((m+(q.t-p.t)-1) / (q.t-p.t)) Za,IntWalk.i64_in _ Za]
 congr 2
 omega
theorem No (l:List Pt) (c:Bool) (t:Int) (hl:Ww l) (ht:0<=t/\t<=1073741824):PC 323 [.p (.list c (l.map FS)),.p (.int .i64 t)] (.int .i64 (QH l t)):=by
 obtain ⟨i,hi⟩:=mH hl t;have hl':=hl;obtain ⟨⟨hl1,hl2⟩,hpt⟩:=hl';refine Zd Tryz.func323 rfl zZ ?_;simp (disch:=omega) only [Tryz.f323,go_sem,seval];refine X4 (Ze6 l c t i hl ht hi) (Zc ?_);obtain ⟨i1,i2,i3⟩:=id hi;refine cD ?_ ?_<;>intro h<;>simp (disch:=omega) only [Sh.out h,go_sem,seval,↓reduceIte]
 ·grind [iM]
 ·refine cD ?_ ?_<;>intro h0<;>simp (disch:=omega) only [Sh.out h0,go_sem,seval]
  ·have:i=0:=Za
   subst this;obtain ⟨p1,p2⟩:=hpt 0 Za;rw [iP hl hi (fun g=>h ⟨Za,g⟩)];refine Xn ?_;simp (disch:=omega) only [go_sem,seval,↓reduceIte]
  ·refine cD ?_ ?_<;>intro h1<;>simp (disch:=omega) only [Sh.out h1,go_sem,seval]
   ·have:i=l.length:=Za
    subst this;obtain ⟨p1,p2⟩:=hpt (l.length-1) Za;rw [iO hi Za]
    have e1:((l.length:Int)-1).toNat=l.length-1:=Za
    refine Xn ?_;simp (disch:=omega) only [go_sem,seval,↓reduceIte]
   ·have g1:i<l.length:=Za
    rw [Tj hi Za g1 (fun g=>h ⟨g1,g⟩)];have g2:=Bv hl g1 (i-1) Za;obtain ⟨p1,p2⟩:=hpt i g1;obtain ⟨p3,p4⟩:=hpt (i-1) Za
    have e1:((i:Int)-1).toNat=i-1:=Za
    have q1:=i2 (i-1) Za;have q2:=i3 i (Zx _) g1;have q3: ¬(nth l i).t=t:=fun g=>h ⟨g1,g⟩;have q4:=p2 Za;refine XX [9,10,11] 12 mixed Ze Ze Ze Zb ?_;simp (disch:=omega) only [e1,go_sem,seval];refine Ga 9 10 _ _ _ _ Ze (by refine Zc ?_;exact ⟨rfl,rfl⟩) (by refine Zc ?_;exact ⟨rfl,rfl⟩) ?_ ?_
    ·refine Xb 10 _ _ Ze (by refine Zc ?_;exact ⟨rfl,rfl⟩) (Xb 11 _ _ Ze (by refine Zc ?_;exact ⟨rfl,rfl⟩) (Wb ?_));refine Zc ?_;refine Xn (Zc ?_);exact ZV (fun z=>V.p (PV.int IntKind.i64 z)) (GB Za Za Za Za Za Za Za)
    ·refine Xb 9 _ _ Ze (by refine Zc ?_;exact ⟨rfl,rfl⟩) (Xb 11 _ _ Ze (by refine Zc ?_;exact ⟨rfl,rfl⟩) (Wb ?_));refine Zc ?_;refine Xn (Zc ?_);exact ZV (fun z=>V.p (PV.int IntKind.i64 z)) (GB Za Za Za Za Za Za Za)
theorem RX (l:List Pt) (c:Bool) (t:Int) (hl:Ww l) (ht:0<=t/\t<=1073741824):PC 317 [.p (.list c (l.map FS)),.p (.int .i64 t)] (.int .i64 (QH l t)):=by
 refine Zd Tryz.func317 rfl zT ?_;simp (disch:=omega) only [Tryz.f317,go_sem,seval];refine (Mi t 0 1073741824).use (Zc ?_);simp (disch:=omega) only [ht,go_sem,seval];refine (mS l c hl).use (Zc ?_);refine (No l c t hl ht).use ?_;simp (disch:=omega) only [go_sem,seval]
theorem LC (n:Net) (p:Int) (hn:n.places.length<=1048576):PC 301 [.p (AJ n),.p (.int .i64 p)] (.bool (JP n p)):=by
 refine Zd Tryz.func301 rfl zD ?_;simp (disch:=omega) only [Tryz.f301,go_sem,seval];refine gT ?_ ?_<;>intro h<;>simp (disch:=omega) only [Sh.out h,go_sem,seval,↓reduceIte]
 ·simp [JP,h]
 ·simp [JP,h]
theorem nU (a:Arc):PC 316 [.p (Wp a)] (.agg [.int .i64 a.src,.int .i64 a.dst,.int .i64 a.prof]):=by
 refine Zd Tryz.func316 rfl zS ?_;simp (disch:=omega) only [Tryz.f316,go_sem,seval,↓reduceIte]
theorem lX (a:Arc) (t:Int) (ha:iK a) (ht:0<=t/\t<=1073741824):PC 303 [.p (Wp a),.p (.int .i64 t)] (.int .i64 (GY a t)):=by
 obtain ⟨h1,h2,h3⟩:=ha;have hr:=Dy h1 ht;have hs:=Qs (t:=t) (fun p hp=>(h3 p hp).2.2);refine Zd Tryz.func303 rfl zG ?_;simp (disch:=omega) only [Tryz.f303,go_sem,seval];refine (RX a.travel a.travel_c t h1 ht).use (Zc ?_);refine Zl [1,13,14] (fun k:Nat=> [(5,.p (.int .i64 (QH a.travel t+Jj a.slow t k))),(15,.p (.int .i64 k))]) (fun _=> [WC a]) (fun k=>k<=a.slow.length) (fun k=>a.slow.length-k) 0 Zb (Weak.mk ?_) ?_
 ·simp (disch:=omega) only [WC,Jj,UB,go_sem,seval];simp
 ·intro k hk;have hsk:=hs k hk;simp (disch:=omega) only [WC,go_sem,seval];refine cD ?_ ?_<;>intro h<;>simp (disch:=omega) only [Sh.out h,go_sem,seval,↓reduceIte]
  ·have hk2:k<a.slow.length:=Za
   have hp:=h3 _ (ZH hk2);have hsn:=Ak (t:=t) hk2;refine ZD ?_ ?_<;>intro h4
   ·rw [if_pos h4] at hsn;exact ⟨k+1,Za,Za,Weak.mk (by simp (disch:=omega) only [hsn,Int.add_assoc,go_sem,seval])⟩
   ·rw [if_neg h4] at hsn;exact ⟨k+1,Za,Za,Weak.mk (by simp (disch:=omega) only [hsn,go_sem,seval])⟩
  grind [GY]
theorem mA (n:Net) (pr f t:Int) (hn:n.arcs.length<=1048576):PT 302 [.p (AJ n),.p (.int .i64 pr),.p (.int .i64 f),.p (.int .i64 t)] [.p (Wp (Wf n pr f t).1),.p (.bool (Wf n pr f t).2)]:=by
 refine Zg [] Tryz.func302 rfl zF ?_;simp (disch:=omega) only [Tryz.f302,go_sem,seval];refine Zl [8,10,18,19] (fun k:Nat=> [(20,.p (.int .i64 k))]) (fun _=>ZZ n++ [WC Vv,.cells [.p (.int .i64 f),.p (.int .i64 t),.p (.int .i64 pr)]]) (fun k=>k<=n.arcs.length/\ ∀j,j<k->WX pr f t (nth n.arcs j)=false) (fun k=>n.arcs.length-k) 0 Zb (Weak.mk ?_) ?_
 ·simp (disch:=omega) only [ZZ,WC,Vv,Zm,ZQ,ZG,go_sem,seval]
 ·rintro k ⟨hk,hno⟩;simp (disch:=omega) only [ZZ,WC,Vv,Zm,ZQ,ZG,go_sem,seval];refine cD ?_ ?_<;>intro h<;>simp (disch:=omega) only [Sh.out h,go_sem,seval,↓reduceIte]
  ·have hk2:k<n.arcs.length:=Za
   have nx:WX pr f t (nth n.arcs k)=false-> ∀j,j<k+1->WX pr f t (nth n.arcs j)=false:=fun h=>Zn.2 ⟨hno,h⟩;refine Xn (Zc ?_);refine Zq (nU (nth n.arcs k)) (Zc ?_);refine ZD ?_ ?_<;>intro h1
   ·have e:=I1 hk2 hno (by simp [WX,h1]);obtain ⟨rfl,rfl,rfl⟩:=h1;rw [e];exact we
   ·have e2:WX pr f t (nth n.arcs k)=false:=by
     simp_all [WX]
    exact ⟨k+1,⟨Za,nx e2⟩,Za,wk⟩
  ·have hkn:k=n.arcs.length:=Za
   subst hkn;rw [I2 hno];exact we (by simp (disch:=omega) only [Vv,Zm,go_sem,seval])
theorem ZgP (n:Net) (pr f t τ:Int) (hn:netR n) (hτ:0<=τ/\τ<=1073741824):PT 278 [.p (AJ n),.p (.int .i64 pr),.p (.int .i64 f),.p (.int .i64 t),.p (.int .i64 τ)] [.p (.int .i64 (V2 n pr f t τ).1),.p (.int .i64 (V2 n pr f t τ).2.1),.p (.int .i64 (V2 n pr f t τ).2.2)]:=by
 refine Zg [] Tryz.func278 rfl yL ?_;simp (disch:=omega) only [Tryz.f278,go_sem,seval];refine (LC n f hn.1).use (Zc ?_);refine gF ?_ ?_<;>intro h1<;>simp (disch:=omega) only [Sh.out h1,go_sem,seval,↓reduceIte]
 ·have e:V2 n pr f t τ=(0,0,11):=by grind [V2]
  rw [e];exact we
 ·simp only [XA] at h1;refine (LC n t hn.1).use (Zc ?_);refine cD ?_ ?_<;>intro h2<;>simp (disch:=omega) only [Sh.out h2,go_sem,seval]
  ·have e:V2 n pr f t τ=(0,0,11):=by grind [V2]
   rw [e];exact we
  ·simp only [XA] at h2;refine cD ?_ ?_<;>intro h3<;>simp (disch:=omega) only [Sh.out h3,go_sem,seval,↓reduceIte]
   ·have e:V2 n pr f t τ=(τ,0,0):=by grind [V2]
    rw [e];exact we
   ·have cf:=mA n pr f t hn.2.1;have hm:= @Kg n pr f t
    have e0:V2 n pr f t τ=if (Wf n pr f t).2=true then (GY (Wf n pr f t).1 τ,(Wf n pr f t).1.miles,0) else (0,0,12):=by grind [V2]
    rw [e0];generalize Wf n pr f t=A at cf hm ⊢;obtain ⟨a,b⟩:=A;simp only at cf hm ⊢;refine X4 cf (Zc ?_);refine cD ?_ ?_<;>intro h4<;>simp (disch:=omega) only [Sh.out h4,go_sem,seval]
    ·have hb:b=false:=by grind
     subst hb;exact we (by simp (disch:=omega) only [go_sem,seval,↓reduceIte])
    ·have hb:b=true:=by grind
     subst hb;refine Xn (Zc ?_);refine Zq (lX a τ (hn.2.2 a (hm rfl)) hτ) (Zc ?_);exact we
def MH (s:Stp) (a:Int):Int×Int:=if max a s.opn>s.cls then (0,14) else (max a s.opn,0)
theorem jH (s:Stp) (a:Int):PT 304 [.p (Hj s),.p (.int .i64 a)] [.p (.int .i64 (MH s a).1),.p (.int .i64 (MH s a).2)]:=by
 refine Zg [] Tryz.func304 rfl zH ?_;simp (disch:=omega) only [Tryz.f304,go_sem,seval];refine cD ?_ ?_<;>intro h<;>simp (disch:=omega) only [Sh.out h,go_sem,seval]
 ·have e:MH s a=(0,14):=by simp_all [MH]
  rw [e];exact we
 ·have e:MH s a=(max a s.opn,0):=by simp_all [MH]
  rw [e];exact we
theorem dZ (l:List Ord) (c:Bool) (p:Int) (hl:l.length<=1048576):PC 236 [.p (.list c (l.map eOrd)),.p (.int .i64 p)] (.bool (decide (0<=p)&&decide (p<(l.length:Int)))):=by
 refine Zd Tryz.func236 rfl bL ?_;simp (disch:=omega) only [Tryz.f236,go_sem,seval];refine gT ?_ ?_<;>intro h<;>simp (disch:=omega) only [Sh.out h,go_sem,seval,↓reduceIte]
 all_goals simp [h]
theorem mC (x:Inst) (v:Vis) (ho:x.orders.length<=1048576) (hv:OC x v=true) (hp:0<=(stopV x v).place):PT 241 [.p (.list x.orders_c (x.orders.map eOrd)),.p (ZX v)] [.p (Hj (stopV x v)),.p (.int .i64 0)]:=by
 refine Zg [] Tryz.func241 rfl xM ?_;simp (disch:=omega) only [Tryz.f241,go_sem,seval];have hv':=hv;rw [OC] at hv';have ct:=dZ x.orders x.orders_c v.order ho;rw [hv'] at ct;refine ct.use ?_;simp only [Zy,Zp] at hv';obtain ⟨h1,h2⟩:=hv'
 have hi:v.order.toNat<x.orders.length:=Za
 refine Zc ?_;refine cD ?_ ?_<;>intro hd<;>simp (disch:=omega) only [Sh.out hd,go_sem,seval,↓reduceIte]
 ·have e:stopV x v=(nth x.orders v.order.toNat).drp:=by simp [stopV,hd]
  rw [e] at hp ⊢
  have e3: ¬(nth x.orders v.order.toNat).drp.place<0:=Za
  simp (disch:=omega) only [e3,go_sem,seval];exact we
 ·have e:stopV x v=(nth x.orders v.order.toNat).pick:=by simp [stopV,hd]
  rw [e] at hp ⊢
  have e3: ¬(nth x.orders v.order.toNat).pick.place<0:=Za
  simp (disch:=omega) only [e3,go_sem,seval];exact we
theorem lZ (l:List Typ) (c:Bool) (ht:l.length<=1048576):PC 291 [.p (.list c (l.map Wq))] (.int .i64 (dimsOf l)):=by
 refine Zd Tryz.func291 rfl yT ?_;simp (disch:=omega) only [Tryz.f291,go_sem,seval];refine cD ?_ ?_<;>intro h1<;>simp (disch:=omega) only [Sh.out h1,go_sem,seval,↓reduceIte]
 ·grind [dimsOf]
 simp_all [dimsOf]
theorem mB (a b:List Int) (c d:Bool) (ha:a.length<=1048576) (hb:b.length<=1048576):PC 268 [.p (.list c (a.map eI)),.p (.list d (b.map eI))] (.bool (Uw a b)):=by
 refine Zd Tryz.func268 rfl yC ?_;simp (disch:=omega) only [Tryz.f268,go_sem,seval];refine cD ?_ ?_<;>intro h1<;>simp (disch:=omega) only [Sh.out h1,go_sem,seval]
 ·grind [Uw]
 ·have h1':a.length=b.length:=Za
  refine Zl [1,12,13] (fun k:Nat=> [(14,.p (.int .i64 k))]) (fun _=> []) (fun k=>k<=a.length/\ ∀j,j<k->nth a j<=nth b j) (fun k=>a.length-k) 0 Zb (Weak.mk ?_) ?_
  ·simp (disch:=omega) only [go_sem,seval]
  ·rintro k ⟨hk,hno⟩;refine Zc ?_;refine cD ?_ ?_<;>intro h2<;>simp (disch:=omega) only [Sh.out h2,go_sem,seval,↓reduceIte]
   ·have hk2:k<a.length:=Za
    refine ZD ?_ ?_<;>intro h3
    ·grind [Uw]
    ·exact ⟨k+1,⟨Za,Zn.2 ⟨hno,Za⟩⟩,Za,wk⟩
   ·have hkl:k=a.length:=Za
    simp_all [Uw]
theorem lW (t:Typ) (s:Int) (h1:t.skills<9223372036854775808) (h2:s<9223372036854775808):PC 264 [.p (Wq t),.p (.int .i64 s)] (.bool (Wn t s)):=by
 refine Zd Tryz.func264 rfl xY ?_;simp (disch:=omega) only [Tryz.f264,go_sem,seval];refine gT ?_ ?_<;>intro c1<;>simp (disch:=omega) only [Sh.out c1,go_sem,seval,↓reduceIte]
 ·refine gT ?_ ?_<;>intro c2<;>simp (disch:=omega) only [Sh.out c2,go_sem,seval,↓reduceIte]
  ·obtain ⟨M,hM⟩: ∃M:Nat,t.skills=(M:Int):=⟨t.skills.toNat,Za⟩;obtain ⟨S,rfl⟩: ∃S:Nat,s=(S:Int):=⟨s.toNat,Za⟩;have hb:=Cv (S:=S) (M:=M) Za
   have e:Wn t (S:Int)=(List.range 63).all fun i=> !S.testBit i||M.testBit i:=by
    simp_all [Wn]
   have hd:decide (IntKind.i64.wrap ((BitVec.ofInt 64 (S:Int)&&& ~~~BitVec.ofInt 64 (M:Int)).toNat:Int)=0)=((List.range 63).all fun i=> !S.testBit i||M.testBit i):=by
    grind
   rw [e,hM];exact ZV (fun b=>V.p (PV.bool b)) hd
  grind [Wn]
 grind [Wn]
theorem ZaF (a b:Int) (h: -1073741824<=a/\a<=1073741824/\ -1073741824<=b/\b<=1073741824):PC 310 [.p (.int .i64 a),.p (.int .i64 b)] (.int .i64 (a+b)):=by
 refine Zd Tryz.func310 rfl zM ?_;simp (disch:=omega) only [Tryz.f310,go_sem,seval]
theorem lH (a b:Int) (h: -1073741824<=a/\a<=1073741824/\ -1073741824<=b/\b<=1073741824):PC 311 [.p (.int .i64 a),.p (.int .i64 b)] (.int .i64 (a-b)):=by
 refine Zd Tryz.func311 rfl zN ?_;simp (disch:=omega) only [Tryz.f311,go_sem,seval]
def SN (f:Nat->Int) (n k:Nat):List Int:=(List.range n).map fun j=>if j<k then f j else 0
theorem lI {f:Nat->Int} {n k:Nat} :(SN f n k).length=n:=by simp [SN]
theorem cJ {f:Nat->Int} {n:Nat} :SN f n 0=List.replicate n 0:=by
 apply QS (by simp [SN]);grind [SN]
theorem cI {f:Nat->Int} {n:Nat} :SN f n n=(List.range n).map f:=by
 simp_all [SN]
theorem lJ {f:Nat->Int} {n k:Nat} (h:k<n):(SN f n k).set k (f k)=SN f n (k+1):=by
 apply QS (by simp [SN]);grind [SN]
theorem FQ (a b:List Int) (c d:Bool) (g:FuncId) (f:Int->Int->Int) (hl:a.length=b.length) (ha:a.length<=1048576)
  (hf: ∀j,j<a.length->ACalls Tryz.prog g [.p (.int .i64 (nth a j)),.p (.int .i64 (nth b j))] [] fun x H'=>x= .p (.int .i64 (f (nth a j) (nth b j)))/\H'= []) :
  PT 309 [.p (.list c (a.map eI)),.p (.list d (b.map eI)),.fn (.func g) [] []] [.p (.list false (((List.range a.length).map fun j=>f (nth a j) (nth b j)).map eI)),.p (.int .i64 0)]:=by
 refine Zg [9] Tryz.func309 rfl zL ?_;simp (disch:=omega) only [Tryz.f309,go_sem,seval];refine cD ?_ ?_<;>intro h0<;>simp (disch:=omega) only [Sh.out h0,go_sem,seval]
 ·omega
 ·have hz:=cJ (f:=fun j=>f (nth a j) (nth b j)) (n:=a.length);have hml:=fun k=>lI (f:=fun j=>f (nth a j) (nth b j)) (n:=a.length) (k:=k);refine ZT [9] [0,1,2,8,19] (fun k:Nat=> [(20,.p (.int .i64 k))]) (fun k=> [.elems 1 ((SN (fun j=>f (nth a j) (nth b j)) a.length k).map eI)]) (fun k=>k<=a.length) (fun k=>a.length-k) 0 Zb (Weak.mk ?_) ?_
  ·simp (disch:=omega) only [hz,go_sem,seval];rw [List.map_replicate];rfl
  ·intro k hk;refine Zc ?_;refine cD ?_ ?_<;>intro h1<;>simp (disch:=omega) only [Sh.out h1,go_sem,seval,↓reduceIte]
   ·have hk2:k<a.length:=Za
    have hs:=lJ (f:=fun j=>f (nth a j) (nth b j)) (n:=a.length) hk2;have hk3:=hml k;refine Z5 12 mixed Ze Ze ?_;refine Zc ?_;refine Zq (hf k hk2) ?_;refine Zc ?_;simp (disch:=first | omega | (simp only [Zz,ZA,ZI,ZM,ZY,Xf]<;>omega)) only [go_sem,seval,↓reduceIte];refine ⟨k+1,Za,Za,Weak.mk ?_⟩;simp (disch:=omega) only [<- hs,go_sem,seval];rw [Vu];rfl
   ·have hkl:k=a.length:=Za
    subst hkl;rw [<- cI];have hk3:=hml a.length;refine Zr (Weak.fz (o:=0) (by rfl)) ?_;refine Zf [] _ _ _ _ ?_;simp (disch:=omega) only [Zt,Zm,Z7,go_sem,seval];rw [if_pos hk3];exact we
theorem dQ (a b:List Int) (c d:Bool) (hl:a.length=b.length) (ha:a.length<=1048576) (h: ∀j,j<a.length-> -1073741824<=nth a j/\nth a j<=1073741824/\ -1073741824<=nth b j/\nth b j<=1073741824):PT 292 [.p (.list c (a.map eI)),.p (.list d (b.map eI))] [.p (.list false ((Dp a b).map eI)),.p (.int .i64 0)]:=by
 refine Zg [] Tryz.func292 rfl yU ?_;simp (disch:=omega) only [Tryz.f292,go_sem,seval];refine X4 (FQ a b c d 310 (fun m n=>m+n) hl ha fun j hj=>ZaF _ _ (h j hj)) ?_;simp (disch:=omega) only [Dp,go_sem,seval];exact we
theorem ZaB (a b:List Int) (c d:Bool) (hl:a.length=b.length) (ha:a.length<=1048576) (h: ∀j,j<a.length-> -1073741824<=nth a j/\nth a j<=1073741824/\ -1073741824<=nth b j/\nth b j<=1073741824):PT 293 [.p (.list c (a.map eI)),.p (.list d (b.map eI))] [.p (.list false ((nG a b).map eI)),.p (.int .i64 0)]:=by
 refine Zg [] Tryz.func293 rfl yV ?_;simp (disch:=omega) only [Tryz.f293,go_sem,seval];refine X4 (FQ a b c d 311 (fun m n=>m-n) hl ha fun j hj=>lH _ _ (h j hj)) ?_;simp (disch:=omega) only [nG,go_sem,seval];exact we
theorem dV (x:Inst) (r:Rte) (ht:0<=r.typ/\r.typ<(x.types.length:Int)) (hv: ∀v∈r.visits,OC x v=true) (hl:r.visits.length<=1048576) (hxl:x.types.length<=1048576) (hol:x.orders.length<=1048576)
  (hs:(ZR x r).skills<9223372036854775808) (ho: ∀o∈x.orders,o.skills<9223372036854775808) :
  PC 219 [.p (ZF x),.p (Z0 r)] (.int .i64 (if (r.visits.any fun v=> !Wn (ZR x r) (nth x.orders v.order.toNat).skills)=true then 18 else 0)):=by
 refine Zd Tryz.func219 rfl wV ?_;simp (disch:=omega) only [Tryz.f219,go_sem,seval];refine Zl [2,3,8,9] (fun k:Nat=> [(10,.p (.int .i64 k))]) (fun _=> [Zj x,.cells [.p (.int .i64 r.typ),.p (.int .i64 r.start),.p (.list r.rests_c (r.rests.map eB)),.p (.list r.visits_c (r.visits.map ZX))]]) (fun k=>k<=r.visits.length/\ ∀j,j<k->Wn (ZR x r) (nth x.orders (nth r.visits j).order.toNat).skills=true) (fun k=>r.visits.length-k) 0 Zb (Weak.mk ?_) ?_
 ·simp (disch:=omega) only [Zj,go_sem,seval]
 ·rintro k ⟨hk,hno⟩;refine Ve ?_;refine cD ?_ ?_<;>intro h1<;>simp (disch:=omega) only [Sh.out h1,go_sem,seval,↓reduceIte]
  ·have hk2:k<r.visits.length:=Za
   have hin:=hv _ (ZH hk2);simp only [OC,Zy,Zp] at hin;obtain ⟨i1,i2⟩:=hin
   have hi:(nth r.visits k).order.toNat<x.orders.length:=Za
   have ho':=ho _ (ZH hi);refine Xn (Zc ?_);refine Zq (lW (ZR x r) (nth x.orders (nth r.visits k).order.toNat).skills Za Za) (Zc ?_);refine ZD ?_ ?_<;>intro h2
   ·have:(r.visits.any fun v=> !Wn (ZR x r) (nth x.orders v.order.toNat).skills)=true:=by
     grind [ZH]
    grind
   ·exact ⟨k+1,⟨Za,Zn.2 ⟨hno,by grind⟩⟩,Za,wk⟩
  ·have: ¬(r.visits.any fun v=> !Wn (ZR x r) (nth x.orders v.order.toNat).skills)=true:=by
    rw [W1];rintro ⟨v,hv,e⟩;obtain ⟨j,hj,rfl⟩:=ZW.1 hv
    grind [Zh]
   grind
def Pb (x:Inst) (d:Nat) (ms:List Int) (k:Nat):List Int:=(ms.take k).foldl (fun s i=>if (nth x.orders i.toNat).pick.place<0 then Dp s (nth x.orders i.toNat).load else s) (List.replicate d 0)
theorem Ma {x:Inst} {d:Nat} {ms:List Int} {k:Nat} (h:k<ms.length):Pb x d ms (k+1)=if (nth x.orders (nth ms k).toNat).pick.place<0 then Dp (Pb x d ms k) (nth x.orders (nth ms k).toNat).load else Pb x d ms k:=by
 grind [Pb,Xw,Zh]
theorem Pc {x:Inst} {d:Nat} {ms:List Int} (hms: ∀i∈ms,∀j,j<d->0<=nth (nth x.orders i.toNat).load j/\nth (nth x.orders i.toNat).load j<=1000): ∀k,k<=ms.length->(Pb x d ms k).length=d/\ ∀j,j<d->0<=nth (Pb x d ms k) j/\nth (Pb x d ms k) j<=1000*k
 | 0,_=>by
  grind [Pb,Zh]
 | k+1,h=>by
  obtain ⟨h1,h2⟩:=Pc hms k Za;rw [Ma Za]
  split
  ·refine ⟨by simp [Dp,h1],fun j hj=> ?_⟩;have a1:=h2 j hj;have a2:=hms _ (ZH (show k<ms.length by omega)) j hj;rw [Dp,JM Za];omega
  ·exact ⟨h1,fun j hj=>by have:=h2 j hj;omega⟩
theorem nF (x:Inst) (S:Int) (d:Nat) (hd:d<=3) (hol:x.orders.length<=1048576) (hms: ∀i∈XK S 63,0<=i/\i<(x.orders.length:Int)) (hml:(XK S 63).length<=63)
  (hld: ∀o∈x.orders,o.load.length=d/\ ∀n∈o.load,0<=n/\n<=1000) :
  PC 290 [.p (ZF x),.p (.int .i64 S),.p (.int .i64 (d:Int))] (.list false ((Pb x d (XK S 63) (XK S 63).length).map eI)):=by
 have hmo: ∀i∈XK S 63,i.toNat<x.orders.length:=fun i hi=>by grind
 have hrg:=Pc (x:=x) (d:=d) (ms:=XK S 63) fun i hi j hj=>by
  grind [ZH]
 refine Zd Tryz.func290 rfl yS ?_;simp (disch:=omega) only [Tryz.f290,go_sem,seval];refine (Gg S).useF (Zc ?_);refine Zr ((Weak.fz (o:=1) (by rfl)).trans (Weak.fz (o:=2) (by rfl))) ?_;simp (disch:=omega) only [Zt,Zm,Xp,Z7,List.length_replicate,eq_self,go_sem,seval]
 have hz:List.replicate d (PV.int .i64 0)=(Pb x d (XK S 63) 0).map eI:=by
  show _=(List.replicate d 0).map eI
  rw [List.map_replicate];rfl
 refine Zl [3,13,14] (fun k:Nat=> [(7,.p (.list false ((Pb x d (XK S 63) k).map eI))),(15,.p (.int .i64 k))]) (fun _=> [Zj x,.dead,.dead]) (fun k=>k<=(XK S 63).length) (fun k=>(XK S 63).length-k) 0 Zb (Weak.mk ?_) ?_
 ·simp (disch:=omega) only [Zj,hz,go_sem,seval]
 ·intro k hk;have hk1:=hrg k hk;have hsn:=fun h=>Ma (x:=x) (d:=d) (ms:=XK S 63) (k:=k) h;refine Ve ?_;refine cD ?_ ?_<;>intro h1<;>simp (disch:=omega) only [Sh.out h1,go_sem,seval,↓reduceIte]
  ·have hk2:k<(XK S 63).length:=Za
   have hm:=hms _ (ZH hk2);have hi:=hmo _ (ZH hk2);have hlo:=hld _ (ZH hi);have hsn:=hsn hk2;refine Zc ?_;refine ZD ?_ ?_<;>intro h2
   ·rw [if_pos h2] at hsn;refine X4 (dQ (Pb x d (XK S 63) k) (nth x.orders (nth (XK S 63) k).toNat).load false (nth x.orders (nth (XK S 63) k).toNat).load_c Za Za fun j hj=> ?_) ?_
    ·have b1:=hk1.2 j Za;have b2:=hlo.2 _ (ZH (show j<(nth x.orders (nth (XK S 63) k).toNat).load.length by omega));omega
    ·refine Zc ?_;exact ⟨k+1,Za,Za,Weak.mk (by simp (disch:=omega) only [hsn,go_sem,seval])⟩
   ·rw [if_neg h2] at hsn;exact ⟨k+1,Za,Za,Weak.mk (by simp (disch:=omega) only [hsn,go_sem,seval])⟩
  grind
theorem MX {p:Nat->Bool} {n:Nat} (h: ∀i,n<=i->p i=false): ∀k,n<=k->(List.range k).filter p=(List.range n).filter p:=by
 intro k hk
 induction k with
 | zero=>grind
 | succ k ih =>
  grind [Yj]
theorem Zgv {x:Inst} {l:List Vis} (hi:Inr x l) (hn:x.orders.length<=10):XK ((ordS l:Nat):Int) 63=((List.range x.orders.length).filter fun (i:Nat)=>hasO l (i:Int)).map fun (i:Nat)=>(i:Int):=by
 have key: ∀i:Nat,i<=62->sHas ((ordS l:Nat):Int) (i:Int)=hasO l (i:Int):=fun i h=>by
  rw [Qp _ _ h,Yp,Wu,XE]
  constructor
  ·rintro ⟨v,hv,e⟩;exact ⟨v,hv,by have:=hi v hv;omega⟩
  grind
 unfold XK;rw [A8 (q:=fun (i:Nat)=>hasO l (i:Int)) (fun i hm=>key i (by grind)),MX (n:=x.orders.length) (fun i h=> ?_) 63 Za]
 cases hh:hasO l (i:Int) with
 | false=>rfl
 | true =>
  obtain ⟨v,hv,e⟩:=XE.1 hh;have:=hi v hv;omega
theorem aW {x:Inst} {d:Nat} : ∀(L:List Nat) (g:Nat->Int),(L.map fun (i:Nat)=>(i:Int)).foldl (fun s (i:Int)=>if (nth x.orders i.toNat).pick.place<0 then Dp s (nth x.orders i.toNat).load else s) ((List.range d).map g)=(List.range d).map fun j=>g j+(L.map fun i=>if (nth x.orders i).pick.place<0 then nth (nth x.orders i).load j else 0).sum
 | [],g=>Zb
 | i::L,g=>by
  rw [Zt,Vl,XP]
  by_cases h:(nth x.orders i).pick.place<0
  ·have e:Dp ((List.range d).map g) (nth x.orders i).load=(List.range d).map fun j=>g j+nth (nth x.orders i).load j:=by
    grind [Dp,YN,JM]
   rw [if_pos h,e,aW L]
   grind
  ·rw [if_neg h,aW L]
   grind
theorem Su {x:Inst} {l:List Vis} (hi:Inr x l) (hn:x.orders.length<=10):Pb x (dimsOf x.types).toNat (XK ((ordS l:Nat):Int) 63) (XK ((ordS l:Nat):Int) 63).length=Y1 x l 0:=by
 rw [Pb,XZ,Zgv hi hn];have:=aW (x:=x) (d:=(dimsOf x.types).toNat) ((List.range x.orders.length).filter fun (i:Nat)=>hasO l (i:Int)) fun _=>0
 have e:(List.range (dimsOf x.types).toNat).map (fun _=>(0:Int))=List.replicate (dimsOf x.types).toNat 0:=by
  simp_all [List.map_const']
 rw [e] at this;rw [this,Y1];refine YN fun j _=> ?_;rw [Int.zero_add,Ja,CQ]
 congr 1
 refine YN fun i _=> ?_
 grind [dE]
theorem fU {x:Inst} {l:List Vis} {n j:Nat} {d:Nat} (hj:j<d) (hld: ∀o∈x.orders,o.load.length=d/\ ∀n∈o.load,0<=n/\n<=1000) (hn:x.orders.length<=10):0<=CQ x l n j/\CQ x l n j<=10000:=by
 have key:=Pf (f:=fun i=>if i<x.orders.length then (if (Fj x l n i&&hasO l i)=true then nth (nth x.orders i).load j else 0) else 0) (b:=1000) Za (fun q=>by
  grind [ZH]) x.orders.length
 have e:CQ x l n j=((List.range x.orders.length).map fun i=>if i<x.orders.length then (if (Fj x l n i&&hasO l i)=true then nth (nth x.orders i).load j else 0) else 0).sum:=by
  simp_all [CQ,YN]
 omega
theorem S9 {x:Inst} {l:List Vis} {n j:Nat} (hj:j<(dimsOf x.types).toNat) (hd:LdOk x):0<=nth (Y1 x l n) j/\nth (Y1 x l n) j<=10000:=by
 rw [Y1,JM hj];exact fU hj (fun o ho=>by obtain ⟨h1,h2⟩:=hd.load o ho;grind) hd.ord
def qE {α:Type} (f:α->Bool) (l:List α):Int:=match l.findIdx? f with | some i=>(i:Int) | none=> -1
theorem aY {α:Type} [Inhabited α] {f:α->Bool} {l:List α} {k:Nat} (hk:k<l.length) (h:f (nth l k)=true) (hno: ∀j,j<k->f (nth l j)=false):qE f l=(k:Int):=by
 have:l.findIdx? f=some k:=by
  grind [UZ,Zh]
 simp [qE,this]
theorem bA {α:Type} [Inhabited α] {f:α->Bool} {l:List α} (hno: ∀j,j<l.length->f (nth l j)=false):qE f l= -1:=by
 have:l.findIdx? f=none:=by
  rw [List.findIdx?_eq_none_iff];intro x hx;obtain ⟨j,hj,rfl⟩:=ZW.1 hx
  grind [Zh]
 simp [qE,this]
theorem aZ {α:Type} {f:α->Bool} {l:List α} :decide (0<=qE f l)=l.any f:=by
 grind [qE]
theorem Rp (l:List (List Int)) (c:Bool) (g:FuncId) (caps:List V) (H:List AM.Obj) (f:List Int->Bool) (hl:l.length<=1048576) (hW:Ic H H.length H H) (hc:Xe H.length caps=true)
  (hg: ∀v∈l,ACalls Tryz.prog g (.p (gW v)::caps) H fun x H'=>x= .p (.bool (f v))/\H'=H) :
  ACalls Tryz.prog 294 [.p (.list c (l.map gW)),.fn (.func g) [] caps] H fun x H'=>x= .p (.int .i64 (qE f l))/\H'=H:=by
 refine X8 Tryz.func294 rfl yW (Zf [] _ _ _ _ ?_);simp (disch:=omega) only [Tryz.f294,go_sem,seval];refine Zl [0,1,7] (fun k:Nat=> [(8,.p (.int .i64 k))]) (fun _=>H) (fun k=>k<=l.length/\ ∀j,j<k->f (nth l j)=false) (fun k=>l.length-k) 0 Zb (Weak.mk ?_) ?_
 ·simp (disch:=omega) only [hW,hc,go_sem,seval];simp
 ·rintro k ⟨hk,hno⟩;refine Zc ?_;refine cD ?_ ?_<;>intro h<;>simp (disch:=omega) only [Sh.out h,go_sem,seval,↓reduceIte]
  ·have hk2:k<l.length:=Za
   have hgk:=hg (nth l k) (Zo hk2);simp (disch:=omega) only [tW,go_sem,seval] at hgk;refine hgk.useH (Zc ?_);refine cD ?_ ?_<;>intro h2<;>simp (disch:=omega) only [Sh.out h2,go_sem,seval,↓reduceIte]
   ·grind [aY]
   ·have h3:f (nth l k)=false:=Za
    refine ⟨k+1,⟨Za,Zn.2 ⟨hno,h3⟩⟩,Za,Weak.mk ?_⟩;simp (disch:=omega) only [hW,hc,go_sem,seval];simp
  grind [bA]
theorem Hf (l:List (List Int)) (c:Bool) (g:FuncId) (caps:List V) (H:List AM.Obj) (f:List Int->Bool) (hl:l.length<=1048576) (hW:Ic H H.length H H) (hc:Xe H.length caps=true)
  (hg: ∀v∈l,ACalls Tryz.prog g (.p (gW v)::caps) H fun x H'=>x= .p (.bool (f v))/\H'=H) :
  ACalls Tryz.prog 266 [.p (.list c (l.map gW)),.fn (.func g) [] caps] H fun x H'=>x= .p (.bool (l.any f))/\H'=H:=by
 refine X8 Tryz.func266 rfl yA (Zf [] _ _ _ _ ?_);simp (disch:=omega) only [Tryz.f266,go_sem,seval];refine (Rp l c g caps H f hl hW hc hg).useH (Zc ?_);rw [aZ]
theorem dX (x:Inst) (r:Rte) (hx:InstOk x) (hl:r.visits.length<=1048576):PC 218 [.p (ZF x),.p (Z0 r)] (.int .i64 (Xk x r.visits)):=by
 have hf:=V3 hx;obtain ⟨h1,h2⟩:=U0.1 hx.rules
 have ha:x.apart.length<=1048576:=by
  have h3:=(U0.1 h1).1
  grind [Mo]
 have hb:x.before.length<=1048576:=by
  have h3:=(U0.1 h2).1
  grind [Mo]
 exact NL x r (by have:=hf.len;omega) hl ha hb
theorem lV {x:Inst} {l:List Vis} (hi:Inr x l) (hn:x.orders.length<=10):ordR l=(((ordS l:Nat):Int),0):=by
 rw [ordR,if_pos];rw [Zu];intro v hv;have:=hi v hv;simp [Cy];omega
theorem ZmZ {α:Type} (f:Nat->α) (n:Nat):(List.range n).map f++ [f n]=(List.range (n+1)).map f:=by grind [Yj]
theorem dU (x:Inst) (r:Rte) (hx:InstOk x) (hl:r.visits.length<=1048576) (h0:Xk x r.visits=0) :
  PT 265 [.p (ZF x),.p (Z0 r)] [.p (.list false ((UF x r.visits).map gW)),.p (.int .i64 0)]:=by
 have hd:=Uy hx;have hsq:=W6 h0;have hol:=hd.ord;have hso:=UL r hl;rw [lV hsq.inr hol] at hso
 have hD:dimsOf x.types=((dimsOf x.types).toNat:Int):=by have:=hd.dim;omega
 have cd:=lZ x.types x.types_c hd.typ;rw [hD] at cd;have hst:=Su hsq.inr hol
 have hmem: ∀i∈XK ((ordS r.visits:Nat):Int) 63,0<=i/\i<(x.orders.length:Int):=fun i hi=>by
  rw [Zgv hsq.inr hol] at hi
  grind
 have cs:=nF x ((ordS r.visits:Nat):Int) (dimsOf x.types).toNat (by have:=hd.dim;omega) Za hmem (D5 _ _) (fun o ho=>by have:=hd.load o ho;grind);rw [hst] at cs;refine Zg [20] Tryz.func265 rfl xZ ?_;simp (disch:=omega) only [Tryz.f265,go_sem,seval];refine (dX x r hx hl).use (Zc ?_);simp (disch:=omega) only [h0,go_sem,seval];refine X4 hso (Zc ?_);refine Xn (Zc ?_);refine Zq (cd) (Zc ?_);refine Zq (cs) (Zc ?_);refine ZT [20] [2,37,38] (fun q:Nat×List (List Int)=> [(9,.p (.list false ((Y1 x r.visits q.1).map eI))),(10,.sl 2 0 q.2.length q.2.length),(39,.p (.int .i64 q.1))]) (fun q=> [Zj x,ZO r,.elems 1 (q.2.map gW)]) (fun q=>q.1<=r.visits.length/\q.2=(List.range (q.1+1)).map (Y1 x r.visits)) (fun q=>r.visits.length-q.1) (0,[Y1 x r.visits 0]) Zb (Weak.mk ?_) ?_
 ·simp (disch:=omega) only [Zj,ZO,Zm,Zt,ZA,Zz,go_sem,seval]
 ·rintro ⟨k,o⟩ ⟨hk,ho⟩;simp only at hk ho
  have hol2:o.length=k+1:=by rw [ho];simp
  refine Jk ?_;refine cD ?_ ?_<;>intro h1<;>simp (disch:=omega) only [Sh.out h1,go_sem,seval,↓reduceIte]
  ·have hk2:k<r.visits.length:=Za
   obtain ⟨v1,v2⟩:=hsq.inr _ (Zo hk2)
   have hi:(nth r.visits k).order.toNat<x.orders.length:=Za
   obtain ⟨l1,l2⟩:=hd.load _ (ZH hi);have hsu:=Pv hsq hk2;have hal:=Dq (x:=x) (l:=r.visits) (n:=k);have hdm:=hd.dim
   have hrg: ∀j,j<(Y1 x r.visits k).length-> -1073741824<=nth (Y1 x r.visits k) j/\nth (Y1 x r.visits k) j<=1073741824/\ -1073741824<=nth (nth x.orders (nth r.visits k).order.toNat).load j/\nth (nth x.orders (nth r.visits k).order.toNat).load j<=1073741824:=fun j hj=>by
    have b1:=S9 (x:=x) (l:=r.visits) (n:=k) (j:=j) Za hd
    grind [ZH]
   refine cD ?_ ?_<;>intro h2<;>simp (disch:=omega) only [Sh.out h2,go_sem,seval,↓reduceIte]
   ·rw [if_pos h2] at hsu;refine X4 (ZaB (Y1 x r.visits k) (nth x.orders (nth r.visits k).order.toNat).load false (nth x.orders (nth r.visits k).order.toNat).load_c Za Za hrg) (Zc ?_);exact ⟨(k+1,o++ [Y1 x r.visits (k+1)]),⟨Za,by grind⟩,Za,Weak.mk (by simp (disch:=omega) only [hsu,ZI,Zz,ZA,Xx,Zt,Zm,go_sem,seval])⟩
   ·rw [if_neg (by rw [h2];simp)] at hsu;refine X4 (dQ (Y1 x r.visits k) (nth x.orders (nth r.visits k).order.toNat).load false (nth x.orders (nth r.visits k).order.toNat).load_c Za Za hrg) (Zc ?_);exact ⟨(k+1,o++ [Y1 x r.visits (k+1)]),⟨Za,by grind⟩,Za,Weak.mk (by simp (disch:=omega) only [hsu,ZI,Zz,ZA,Xx,Zt,Zm,go_sem,seval])⟩
  ·have hkl:k=r.visits.length:=Za
   subst hkl;refine Zr (Weak.fz (o:=2) (by rfl)) (Zf [] _ _ _ _ (VG ?_));rw [UF,<- ho];exact we
theorem kR (x:Inst) (r:Rte) (a:List Int) (htl:x.types.length<=1048576) (hty:0<=r.typ/\r.typ<(x.types.length:Int)) (ha:a.length<=1048576) (hc:(ZR x r).cap.length<=1048576) :
  ACalls Tryz.prog 267 [.p (gW a),.ptr 0 0,.ptr 1 0] [Zj x,ZO r] fun y H'=>y= .p (.bool (!Uw a (ZR x r).cap))/\H'= [Zj x,ZO r]:=by
 have hti:r.typ.toNat<x.types.length:=Za
 refine Zg [] Tryz.func267 rfl yB ?_;simp (disch:=omega) only [Tryz.f267,Zj,ZO,go_sem,seval];refine (mB a (ZR x r).cap false (ZR x r).cap_c ha hc).use (Zc ?_);exact we
theorem dR (x:Inst) (r:Rte) (hx:InstOk x) (hl:r.visits.length<=1048576) (hty:0<=r.typ/\r.typ<(x.types.length:Int)) (h0:Xk x r.visits=0) :
  PC 220 [.p (ZF x),.p (Z0 r)] (.int .i64 (if UE x (ZR x r).cap r.visits=true then 0 else 17)):=by
 have hd:=Uy hx;have htl:=hd.typ
 have hti:r.typ.toNat<x.types.length:=Za
 have hcp:(ZR x r).cap.length<=1048576:=by
  have hcap:=hx.types.2 _ hti;unfold KY at hcap;obtain ⟨⟨⟨⟨⟨⟨⟨⟨_,_⟩,_⟩,_⟩,hcap⟩,_⟩,_⟩,_⟩,_⟩:=hcap;simp only [Ub,Zy,Zp,rng] at hcap;unfold ZR;omega
 have hll:(UF x r.visits).length=r.visits.length+1:=by simp [UF]
 have hvl:=(W6 h0).len hd.ord
 have X9:(UF x r.visits).any (fun a=> !Uw a (ZR x r).cap)= !UE x (ZR x r).cap r.visits:=by
  grind [UE,UF]
 have e1: ¬r.typ<0:=Za
 have e2: ¬(x.types.length:Int)<=r.typ:=Za
 refine Zd Tryz.func220 rfl wW ?_;simp (disch:=omega) only [Tryz.f220,e1,e2,go_sem,seval];refine X4 (dU x r hx hl h0) (Zc ?_);refine (Hf (UF x r.visits) false 267 [.ptr 0 0,.ptr 1 0] [Zj x,ZO r] (fun a=> !Uw a (ZR x r).cap) Za (by simp (disch:=omega) only [Zj,ZO,go_sem,seval]) (by rfl) (fun a ha=>kR x r a htl hty ?_ hcp)).useH ?_
 ·obtain ⟨j,_,rfl⟩:=XM.1 ha;rw [Dq];have:=hd.dim;omega
 ·refine Jk ?_;rw [X9];refine cD ?_ ?_<;>intro h1<;>simp (disch:=omega) only [Sh.out h1,go_sem,seval]
  ·grind
  grind
set_option maxRecDepth 60000
def CM (x:Inst) (o n:Nat):List V:= [.p (.list x.net.places_c (x.net.places.map eS)),.p (.list x.net.arcs_c (x.net.arcs.map Wp)),.p (.list x.types_c (x.types.map Wq)),.sl o 0 n n,.p (.list x.apart_c (x.apart.map eP)),.p (.list x.before_c (x.before.map eP))]
theorem Ky {β:Type} [Inhabited β] {a b:List β} (hl:a.length=b.length) (h: ∀j,j<a.length->nth a j=nth b j):a=b:=by
 grind [QS,Zh]
def YW (a b:Rte):Bool:=decide (a.typ=b.typ)&&(decide (a.start=b.start)&&(decide (a.rests=b.rests)&&decide (a.visits=b.visits)))
def CI (p q:Pln):Bool:=(decide (p.routes.length=q.routes.length)&&(List.range p.routes.length).all fun k=>YW (nth p.routes k) (nth q.routes k))&&decide (p.unserved=q.unserved)
theorem KF {a b:Rte} :YW a b=true↔a.typ=b.typ/\a.start=b.start/\a.rests=b.rests/\a.visits=b.visits:=by
 simp [YW]
theorem Ft (a b:Rte) (ha:Q7 a) (hb:Q7 b):PC 41 [.p (Z0 a),.p (Z0 b)] (.bool (YW a b)):=by
 obtain ⟨a1,a2⟩:=ha;obtain ⟨b1,b2⟩:=hb
 have no:(a.typ=b.typ/\a.start=b.start/\a.rests=b.rests/\a.visits=b.visits->False)->YW a b=false:=fun h=>by
  grind [KF]
 refine Zd Tryz.func41 rfl ZfQ ?_;simp (disch:=omega) only [Tryz.f41,go_sem,seval];refine gF ?_ ?_<;>intro h1<;>simp (disch:=omega) only [Sh.out h1,go_sem,seval,↓reduceIte]
 ·grind
 ·refine gF ?_ ?_<;>intro h2<;>simp (disch:=omega) only [Sh.out h2,go_sem,seval,↓reduceIte]
  ·grind
  ·refine gF ?_ ?_<;>intro h3<;>simp (disch:=omega) only [Sh.out h3,go_sem,seval,↓reduceIte]
   ·grind
   ·refine cD ?_ ?_<;>intro h4<;>simp (disch:=omega) only [Sh.out h4,go_sem,seval]
    ·grind
    ·have l1:a.rests.length=b.rests.length:=Za
     have l2:a.visits.length=b.visits.length:=Za
     refine Zl [2,3] (fun k:Nat=> [(5,.p (.int .i64 k))]) (fun _=> [ZO a,ZO b]) (fun k=>k<=a.rests.length/\ ∀j,j<k->nth a.rests j=nth b.rests j) (fun k=>a.rests.length-k) 0 Zb (Weak.mk ?_) ?_
     ·simp (disch:=omega) only [ZO,go_sem,seval]
     ·rintro k ⟨hk,hno⟩;refine EO ?_;refine cD ?_ ?_<;>intro h5<;>simp (disch:=omega) only [Sh.out h5,go_sem,seval,↓reduceIte]
      ·have hk2:k<a.rests.length:=Za
       refine Xn (Zc ?_);refine ZD ?_ ?_<;>intro h6
       ·grind
       ·exact ⟨k+1,⟨Za,Zn.2 ⟨hno,by grind⟩⟩,Za,wk⟩
      ·have e1:a.rests=b.rests:=Ky l1 fun j hj=>hno j Za;refine Zl [2,3] (fun k:Nat=> [(6,.p (.int .i64 k))]) (fun _=> [ZO a,ZO b]) (fun k=>k<=a.visits.length/\ ∀j,j<k->nth a.visits j=nth b.visits j) (fun k=>a.visits.length-k) 0 Zb (Weak.mk ?_) ?_
       ·simp (disch:=omega) only [ZO,go_sem,seval]
       ·rintro k ⟨hk,hno2⟩;refine EO ?_;refine cD ?_ ?_<;>intro h7<;>simp (disch:=omega) only [Sh.out h7,go_sem,seval,↓reduceIte]
        ·have hk2:k<a.visits.length:=Za
         refine Xn (Zc ?_);refine ZD ?_ ?_<;>intro h8
         ·grind
         ·exact ⟨k+1,⟨Za,Zn.2 ⟨hno2,EW.2 (by grind)⟩⟩,Za,wk⟩
        grind [KF,Ky]
theorem BB {p q:Pln} (h:(p.routes.length=q.routes.length/\(∀k,k<p.routes.length->YW (nth p.routes k) (nth q.routes k)=true)/\p.unserved=q.unserved)->False):CI p q=false:=by
 simp_all [CI]
theorem Gz {p q:Pln} (h1:p.routes.length=q.routes.length) (h2: ∀k,k<p.routes.length->YW (nth p.routes k) (nth q.routes k)=true) (h3:p.unserved=q.unserved):CI p q=true:=by
 simp_all [CI]
theorem BJ {P Q:Prop} (h:Q) (e:Q->P:=by intro h;simp (disch:=omega) only [VY,go_sem,seval];exact h):P:=e h
theorem LY (p q:Pln) (hp:p.routes.length<=1048576/\p.unserved.length<=1048576/\ ∀r∈p.routes,Q7 r) (hq:q.routes.length<=1048576/\q.unserved.length<=1048576/\ ∀r∈q.routes,Q7 r) :
  PC 13 [.p (Vk p),.p (Vk q)] (.bool (CI p q)):=by
 have p1:=hp.1;have p2:=hp.2.1;refine Zd Tryz.func13 rfl ZfG ?_;simp (disch:=omega) only [Tryz.f13,go_sem,seval];refine gF ?_ ?_<;>intro h1<;>simp (disch:=omega) only [Sh.out h1,go_sem,seval,↓reduceIte]
 ·grind [BB]
 ·refine cD ?_ ?_<;>intro h2<;>simp (disch:=omega) only [Sh.out h2,go_sem,seval]
  ·grind [BB]
  ·have l1:p.routes.length=q.routes.length:=Za
   have l2:p.unserved.length=q.unserved.length:=Za
   refine Zl [2,3] (fun k:Nat=> [(5,.p (.int .i64 k))]) (fun _=> [Z9 p,Z9 q]) (fun k=>k<=p.routes.length/\ ∀j,j<k->YW (nth p.routes j) (nth q.routes j)=true) (fun k=>p.routes.length-k) 0 Zb (Weak.mk ?_) ?_
   ·simp (disch:=omega) only [Z9,go_sem,seval]
   ·rintro k ⟨hk,hno⟩;refine JY ?_;refine cD ?_ ?_<;>intro h5<;>simp (disch:=omega) only [Sh.out h5,go_sem,seval,↓reduceIte]
    ·have hk2:k<p.routes.length:=Za
     refine Xn (Zc ?_);refine Zq (Ft (nth p.routes k) (nth q.routes k) (hp.2.2 _ (ZH hk2)) (hq.2.2 _ (ZH Za))) (Zc ?_)
     cases hs:YW (nth p.routes k) (nth q.routes k) with
     | false =>
      rw [BB fun h=>by grind];simp (disch:=omega) only [Q3,go_sem,seval]
     | true =>
      refine BJ ?_;exact ⟨k+1,⟨Za,Zn.2 ⟨hno,hs⟩⟩,Za,wk⟩
    ·refine Zl [2,3] (fun k:Nat=> [(6,.p (.int .i64 k))]) (fun _=> [Z9 p,Z9 q]) (fun k=>k<=p.unserved.length/\ ∀j,j<k->nth p.unserved j=nth q.unserved j) (fun k=>p.unserved.length-k) 0 Zb (Weak.mk ?_) ?_
     ·simp (disch:=omega) only [Z9,go_sem,seval]
     ·rintro i ⟨hi,hno2⟩;refine JY ?_;refine cD ?_ ?_<;>intro h7<;>simp (disch:=omega) only [Sh.out h7,go_sem,seval,↓reduceIte]
      ·have hk2:i<p.unserved.length:=Za
       refine Xn (Zc ?_);refine ZD ?_ ?_<;>intro h8
       ·grind [BB]
       ·exact ⟨i+1,⟨Za,Zn.2 ⟨hno2,Za⟩⟩,Za,wk⟩
      grind [Gz,Ky]
def IW (x:Inst) (t:Typ) (r:Rte) (c:Bool) (sp:List Stp):PV:= .agg [.list x.net.places_c (x.net.places.map eS),.list x.net.arcs_c (x.net.arcs.map Wp),.list x.types_c (x.types.map Wq),.list x.orders_c (x.orders.map eOrd),.list x.apart_c (x.apart.map eP),.list x.before_c (x.before.map eP),.str t.name,.int .i64 t.count,.int .i64 t.src,.int .i64 t.dst,.list t.cap_c (t.cap.map eI),.int .i64 t.skills,.int .i64 t.prof,.int .i64 t.opn,.int .i64 t.cls,.int .i64 t.drive,.int .i64 t.rest,.int .i64 t.fixed,.int .i64 t.perMile,.int .i64 t.perTick,.int .i64 r.typ,.int .i64 r.start,.list r.rests_c (r.rests.map eB),.list r.visits_c (r.visits.map ZX),.list c (sp.map Hj)]
@[go_sem] theorem ZiR (x:Inst) (t:Typ) (r:Rte) (c:Bool) (sp:List Stp):IW x t r c sp= .agg [.list x.net.places_c (x.net.places.map eS),.list x.net.arcs_c (x.net.arcs.map Wp),.list x.types_c (x.types.map Wq),.list x.orders_c (x.orders.map eOrd),.list x.apart_c (x.apart.map eP),.list x.before_c (x.before.map eP),.str t.name,.int .i64 t.count,.int .i64 t.src,.int .i64 t.dst,.list t.cap_c (t.cap.map eI),.int .i64 t.skills,.int .i64 t.prof,.int .i64 t.opn,.int .i64 t.cls,.int .i64 t.drive,.int .i64 t.rest,.int .i64 t.fixed,.int .i64 t.perMile,.int .i64 t.perTick,.int .i64 r.typ,.int .i64 r.start,.list r.rests_c (r.rests.map eB),.list r.visits_c (r.visits.map ZX),.list c (sp.map Hj)]:=Zk rfl rfl
def Za0 (x:Inst) (t:Typ) (r:Rte):List V:= [.p (.list x.net.places_c (x.net.places.map eS)),.p (.list x.net.arcs_c (x.net.arcs.map Wp)),.p (.list x.types_c (x.types.map Wq)),.p (.list x.orders_c (x.orders.map eOrd)),.p (.list x.apart_c (x.apart.map eP)),.p (.list x.before_c (x.before.map eP)),.p (.str t.name),.p (.int .i64 t.count),.p (.int .i64 t.src),.p (.int .i64 t.dst),.p (.list t.cap_c (t.cap.map eI)),.p (.int .i64 t.skills),.p (.int .i64 t.prof),.p (.int .i64 t.opn),.p (.int .i64 t.cls),.p (.int .i64 t.drive),.p (.int .i64 t.rest),.p (.int .i64 t.fixed),.p (.int .i64 t.perMile),.p (.int .i64 t.perTick),.p (.int .i64 r.typ),.p (.int .i64 r.start),.p (.list r.rests_c (r.rests.map eB)),.p (.list r.visits_c (r.visits.map ZX))]
def YD (x:Inst) (t:Typ) (r:Rte) (c:Bool) (sp:List Stp):AM.Obj:= .cells [.p (.list x.net.places_c (x.net.places.map eS)),.p (.list x.net.arcs_c (x.net.arcs.map Wp)),.p (.list x.types_c (x.types.map Wq)),.p (.list x.orders_c (x.orders.map eOrd)),.p (.list x.apart_c (x.apart.map eP)),.p (.list x.before_c (x.before.map eP)),.p (.str t.name),.p (.int .i64 t.count),.p (.int .i64 t.src),.p (.int .i64 t.dst),.p (.list t.cap_c (t.cap.map eI)),.p (.int .i64 t.skills),.p (.int .i64 t.prof),.p (.int .i64 t.opn),.p (.int .i64 t.cls),.p (.int .i64 t.drive),.p (.int .i64 t.rest),.p (.int .i64 t.fixed),.p (.int .i64 t.perMile),.p (.int .i64 t.perTick),.p (.int .i64 r.typ),.p (.int .i64 r.start),.p (.list r.rests_c (r.rests.map eB)),.p (.list r.visits_c (r.visits.map ZX)),.p (.list c (sp.map Hj))]
def Zba : AM.Obj:= .cells [.p (.list true []),.p (.list true []),.p (.list true []),.p (.list true []),.p (.list true []),.p (.list true []),.p (.str []),.p (.int .i64 0),.p (.int .i64 0),.p (.int .i64 0),.p (.list true []),.p (.int .i64 0),.p (.int .i64 0),.p (.int .i64 0),.p (.int .i64 0),.p (.int .i64 0),.p (.int .i64 0),.p (.int .i64 0),.p (.int .i64 0),.p (.int .i64 0),.p (.int .i64 0),.p (.int .i64 0),.p (.list true []),.p (.list true []),.p (.list true [])]
def QM (L:Lab):PV:= .agg [.int .i64 L.ready,.int .i64 L.since,.bool L.she.rest,.int .i64 L.she.dep,.list L.she.times_c (L.she.times.map eTim),.int .i64 L.she.fin,.int .i64 L.she.miles]
@[go_sem] theorem ZiI (L:Lab):QM L= .agg [.int .i64 L.ready,.int .i64 L.since,.bool L.she.rest,.int .i64 L.she.dep,.list L.she.times_c (L.she.times.map eTim),.int .i64 L.she.fin,.int .i64 L.she.miles]:=Zk rfl rfl
@[go_sem] theorem ZbE (l:List Lab):Dt 7 (l.map QM)=true:=Av (f:=QM) (S:=7) (fun _=>rfl) l
def Wh (L:Lab):AM.Obj:= .cells [.p (.int .i64 L.ready),.p (.int .i64 L.since),.p (.bool L.she.rest),.p (.int .i64 L.she.dep),.p (.list L.she.times_c (L.she.times.map eTim)),.p (.int .i64 L.she.fin),.p (.int .i64 L.she.miles)]
theorem TP (l:List Tim) (c:Bool) (hl:l.length<=1048576):ACalls Tryz.prog 312 [.p (.list c (l.map eTim))] [] fun x H'=>x= .sl 0 0 l.length l.length/\H'= [.elems 4 (l.map eTim)]:=by
 suffices hh:ACalls Tryz.prog 312 [.p (.list c (l.map eTim))] [] fun x H'=> ∃m:List Tim,m=l/\x= .sl 0 0 m.length m.length/\H'= [.elems 4 (m.map eTim)] by
  grind
 refine Zg [1] Tryz.func312 rfl zO ?_;simp (disch:=omega) only [Tryz.f312,go_sem,seval];refine Vt (Vt (jE 1 rfl rfl ?_));refine ⟨_,O0 (e:=178) rfl Tryz.underlying93 rfl (fun _=>rfl),?_⟩;rintro _ ⟨b,rfl,hb⟩;refine Zc ?_;refine Zf [] _ _ _ _ ?_
 cases b with
 | true =>
  have hn:l= []:=by simp_all
  subst hn;refine Zc ?_;exact ⟨_,_,Weak.ofNil 0 4 rfl Zb (wk),[],rfl,rfl,rfl⟩
 | false =>
  refine Zc ?_;refine Zf [] _ _ _ _ (Zc ?_);exact ⟨.sl 0 0 l.length l.length,[.elems 4 (l.map eTim)],wk,l,rfl,rfl,rfl⟩
theorem FI (x:Inst) (t:Typ) (r:Rte) (c:Bool) (sp:List Stp):PC 270 [.p (IW x t r c sp)] (QM (Xy t r.start)):=by
 refine Zg [] Tryz.func270 rfl yD ?_;simp (disch:=omega) only [Tryz.f270,go_sem,seval];exact we (by simp (disch:=omega) only [Xy,zShe,Zm,go_sem,seval])
theorem eN (x:Inst) (t:Typ) (r:Rte) (c:Bool) (sp:List Stp) (k:Nat) (hk:k<=sp.length) (hl:sp.length<=1048576):PC 313 [.p (IW x t r c sp),.p (.int .i64 (k:Nat))] (.int .i64 (Jo t sp k)):=by
 refine Zd Tryz.func313 rfl zP ?_;simp (disch:=omega) only [Tryz.f313,go_sem,seval];refine cD ?_ ?_<;>intro h<;>simp (disch:=omega) only [Sh.out h,go_sem,seval,↓reduceIte]
 ·simp_all [Jo]
 simp_all [Jo]
theorem ZaE (x:Inst) (r:Rte) (hx:InstOk x) (hty:0<=r.typ/\r.typ<(x.types.length:Int)) (h0:Xk x r.visits=0) (hs:0<=r.start/\r.start<=4096) :
  PT 269 [.p (ZF x),.p (Z0 r)] [.p (IW x (ZR x r) r false (Xs x r.visits)),.p (.bool true)]:=by
 have hd:=Uy hx;have hsq:=W6 h0;have hol:=hd.ord;have htl:=hd.typ;have hvl:=hsq.len hol
 have e1: ¬r.typ<0:=Za
 have e2: ¬(x.types.length:Int)<=r.typ:=Za
 have e3: ¬r.start<0:=Za
 have e4: ¬ 4096<r.start:=Za
 have e5: ¬ 20<(r.visits.length:Int):=Za
 refine Zg [12] Tryz.func269 rfl bM ?_;simp (disch:=omega) only [Tryz.f269,e1,e2,e3,e4,e5,go_sem,seval];refine XX [9] 10 mixed Ze Ze Ze Zb (Zc ?_);refine Xb 9 _ _ Ze (by refine Zc ?_;exact ⟨rfl,rfl⟩) (Wb ?_);refine Zc ?_
 refine ZT [12] [2,4,6,49,50] (fun q:Nat×List Stp=> [(51,.p (.int .i64 q.1))])
  (fun q=> [Zj x,ZO r,Zba,.cells (Za0 x (ZR x r) r++ [.sl 4 0 q.2.length q.2.length]),.elems 4 (q.2.map Hj)])
  (fun q=>q.1<=r.visits.length/\q.2=(Xs x r.visits).take q.1) (fun q=>r.visits.length-q.1) (0,[]) Zb ((Weak.nilC (o:=3) (j:=24) 4 rfl rfl Zb).trans (Weak.mk ?_)) ?_
 ·simp (disch:=omega) only [Zj,ZO,Zba,Za0,ZR,Zm,ZA,Xp,Z7,ZQ,ZG,go_sem,seval]
 ·rintro ⟨k,o⟩ ⟨hk,ho⟩;simp only at hk ho
  have hol2:o.length=k:=by grind [X0]
  simp (disch:=omega) only [Zj,ZO,Zba,Za0,go_sem,seval];refine cD ?_ ?_<;>intro h1<;>simp (disch:=omega) only [Sh.out h1,go_sem,seval,↓reduceIte]
  ·have hk2:k<r.visits.length:=Za
   have hvis:=hsq.vis (Zo hk2);simp only [J3,Zy,Zp] at hvis
   have hsn:o++ [stopV x (nth r.visits k)]=(Xs x r.visits).take (k+1):=by
    rw [ho,Xw (by grind [X0]),<- Zh,EM hk2]
   have hnp: ¬(stopV x (nth r.visits k)).place<0:=Za
   refine X4 (mC x (nth r.visits k) Za hvis.1 hvis.2) ?_;simp (disch:=omega) only [hnp,go_sem,seval];exact ⟨(k+1,o++ [stopV x (nth r.visits k)]),⟨Za,hsn⟩,Za,Weak.mk (by simp (disch:=omega) only [ZI,Zz,ZA,Xx,Zt,Zm,go_sem,seval])⟩
  ·have hkl:k=r.visits.length:=Za
   subst hkl
   have hso:o=Xs x r.visits:=by grind [X0]
   subst hso;refine Zr (Weak.fz (o:=4) (by rfl)) (Zf [] _ _ _ _ (VG ?_));exact we
def L6 (rd sn:Int) (m:She):AM.Obj:= .cells [.p (.int .i64 rd),.p (.int .i64 sn),.p (.bool m.rest),.p (.int .i64 m.dep),.sl 4 0 m.times.length m.times.length,.p (.int .i64 m.fin),.p (.int .i64 m.miles)]
theorem MU {P:Program} {H:List AM.Obj} {f ars} {a b d:PV} {B:V->Prop} {t} (h:ACalls P f ars [] fun x H'=>x= .tup [.p a,.p b,.p d]/\H'= []) (k:B (.tup [.p a,.p b,.p d])) (ha:Xe 0 ars=true:=by rfl) :
  SL (fun y=>ACalls P f ars H (Zv (Zv (fun x H'=>x=y/\H'=H) ⟨⟩) ⟨⟩)) (Zv B t) :=
 ⟨.tup [.p a,.p b,.p d],(h.behind ha H).mono fun x H' hq=>by
  obtain ⟨y,H1,⟨rfl,rfl⟩,rfl,rfl⟩:=hq
  simp [shV,shVs,Zv],k⟩
theorem Zaq (x:Inst) (t:Typ) (r:Rte) (c:Bool) (sp:List Stp) (hok:TrpOk x t sp) (k:Nat) (hk:k<=sp.length) (hs1:0<sp.length) (L:Lab) (hL:LabR k L) (hlen:L.she.times.length=k) (hclip:0<k->L.she.times_c=false) (b:Bool) :
  PT 295 [.p (IW x t r c sp),.p (QM L),.p (.int .i64 (k:Nat)),.p (.bool b)] [.p (QM (XT x t sp k L b).1),.p (.int .i64 (XT x t sp k L b).2)]:=by
 have hd:=Jv hok hL b;have hsn:=EL hL b;have hg:=Hq hok hL b;have hmi:=hL.mil;have hrd:=hL.rdy;have hsnL:=hL.snc;have hsl:=hok.len;have hrst:=hok.rst;unfold XT;have hmm:= @JG k (ZE t L b) b L.she;have hmf:= @Gf k (ZE t L b) b L.she;have hml:= @Kz k (ZE t L b) b L.she;refine Zg [2,7,14,31] Tryz.func295 rfl yX ?_;simp (disch:=omega) only [Tryz.f295,go_sem,seval];refine Xn (Zc ?_);refine ZC [2,3,4,5,8] (fun _:Unit=> [(10,.p (.int .i64 (ZE t L b))),(11,.p (.int .i64 (Wy L b)))]) (fun _=> [YD x t r c sp,Wh L,Wh We]) (fun _=>True) ?_ ?_
 ·refine Zc ?_;refine ZD ?_ ?_<;>intro h
  ·subst h;exact ⟨(),Weak.mk (by simp (disch:=omega) only [YD,Wh,We,zShe,ZE,Wy,Zm,go_sem,seval,↓reduceIte])⟩
  ·subst h;exact ⟨(),Weak.mk (by simp (disch:=omega) only [YD,Wh,We,zShe,ZE,Wy,Zm,go_sem,seval,↓reduceIte])⟩
 ·intro _ _;refine Zf [7,14,31] _ _ _ _ ?_;simp (disch:=omega) only [YD,Wh,We,zShe,Zm,go_sem,seval];refine (TP L.she.times L.she.times_c Za).useF (Zc ?_)
  generalize hM:XB k (ZE t L b) b L.she=M at *
  refine ZC [2,4,8,10,11,12] (fun _:Unit=> []) (fun _=> [YD x t r c sp,Wh L,Wh We,L6 0 0 M,.elems 4 (M.times.map eTim)]) (fun _=>True) ?_ ?_
  ·refine Zc ?_;refine ZD ?_ ?_<;>intro h
   ·have hk0:k=0:=Za
    subst hk0
    have e:M= { L.she with rest:=b,dep:=ZE t L b } :=by rw [<- hM,XB,if_pos rfl]
    rw [e];exact ⟨(),Weak.mk (by simp (disch:=omega) only [YD,Wh,We,zShe,L6,Zm,go_sem,seval])⟩
   ·have e1:((k:Int)-1).toNat=k-1:=Za
    have hk1:k-1<L.she.times.length:=Za
    have qF:(L.she.times.map eTim).set (k-1) (PV.agg [.int .i64 (nth L.she.times (k-1)).arr,.int .i64 (nth L.she.times (k-1)).beg,.int .i64 (nth L.she.times (k-1)).dep,.bool b])=(L.she.times.set (k-1) { nth L.she.times (k-1) with rest:=b }).map eTim:=by
     rw [Vu];rfl
    have hn1:nth (L.she.times.set (k-1) { nth L.she.times (k-1) with rest:=b }) (k-1)= { nth L.she.times (k-1) with rest:=b } :=by
     grind [Zh]
    have hl1:(L.she.times.set (k-1) { nth L.she.times (k-1) with rest:=b }).length=L.she.times.length:=Zb
    have hMt:M.times=(L.she.times.set (k-1) { nth L.she.times (k-1) with rest:=b }).set (k-1) { nth (L.she.times.set (k-1) { nth L.she.times (k-1) with rest:=b }) (k-1) with dep:=ZE t L b } :=by
     rw [hn1,List.set_set,<- hM,XB,if_neg Za];rfl
    have hM2:M.rest=L.she.rest/\M.dep=L.she.dep:=by rw [<- hM,XB,if_neg Za];simp
    simp (disch:=first | omega | (simp only [Zz,ZA,ZI,ZM,ZY,Xf]<;>omega)) only [e1,go_sem,seval,↓reduceIte];rw [qF]
    generalize L.she.times.set (k-1) { nth L.she.times (k-1) with rest:=b } =l1 at *
    simp (disch:=first | omega | (simp only [Zz,ZA,ZI,ZM,ZY,Xf]<;>omega)) only [e1,hl1,eq_self,Vp,go_sem,seval];refine ⟨(),Weak.mk ?_⟩;simp (disch:=omega) only [YD,Wh,We,zShe,L6,Zm,hM2.1,hM2.2,hmm,hmf,hml,go_sem,seval];rw [hMt,Vu]
    rfl
  ·intro _ _;refine Zf [14,31] _ _ _ _ ?_;simp (disch:=omega) only [YD,Wh,We,zShe,L6,Zm,go_sem,seval];refine ZC [2,4,8,10,11,12,13] (fun _:Unit=> [(14,.p (.int .i64 (SO t sp k)))]) (fun _=> [YD x t r c sp,Wh L,Wh We,L6 0 0 M,.elems 4 (M.times.map eTim)]) (fun _=>True) ?_ ?_
   ·refine Zc ?_;refine ZD ?_ ?_<;>intro h
    ·have e:SO t sp k=(nth sp k).place:=by rw [SO,if_neg Za]
     exact ⟨(),Weak.mk (by simp (disch:=omega) only [YD,Wh,We,zShe,L6,Zm,e,go_sem,seval])⟩
    ·have e:SO t sp k=t.dst:=by rw [SO,if_pos Za]
     exact ⟨(),Weak.mk (by simp (disch:=omega) only [YD,Wh,We,zShe,L6,Zm,e,go_sem,seval])⟩
   ·intro _ _;refine Zf [31] _ _ _ _ ?_;simp (disch:=omega) only [YD,Wh,We,zShe,L6,Zm,go_sem,seval];refine Xn (Zc ?_);refine Zq (eN x t r c sp k hk Za) (Zc ?_);refine MU (ZgP x.net t.prof (Jo t sp k) (SO t sp k) (ZE t L b) hok.net Za) (Zc ?_);have hG:V2 x.net t.prof (Jo t sp k) (SO t sp k) (ZE t L b)=YH x t sp k (ZE t L b):=rfl;rw [hG];clear hG
    generalize YH x t sp k (ZE t L b)=g at *
    generalize ZE t L b=d at *
    generalize Wy L b=s at *
    refine cD ?_ ?_<;>intro h1<;>simp (disch:=omega) only [Sh.out h1,go_sem,seval,↓reduceIte]
    ·have e:Y9 t sp k g d s M=(We,12):=by rw [Y9,if_pos h1]
     rw [e];exact we (by simp (disch:=omega) only [We,zShe,Zm,go_sem,seval])
    ·refine cD ?_ ?_<;>intro h2<;>simp (disch:=omega) only [Sh.out h2,go_sem,seval,↓reduceIte]
     ·refine cD ?_ ?_<;>intro h3<;>simp (disch:=omega) only [Sh.out h3,go_sem,seval,↓reduceIte]
      ·have e:Y9 t sp k g d s M=(We,15):=by rw [Y9,if_neg h1,if_pos Za,if_pos h3]
       rw [e];exact we (by simp (disch:=omega) only [We,zShe,Zm,go_sem,seval])
      ·refine Zr (Weak.fz (o:=4) (by rfl)) (Zf [] _ _ _ _ (VG ?_));refine cD ?_ ?_<;>intro h4<;>simp (disch:=omega) only [Sh.out h4,go_sem,seval,↓reduceIte]
       ·have e:Y9 t sp k g d s M=(We,16):=by rw [Y9,if_neg h1,if_pos Za,if_neg h3,if_pos h4]
        rw [e];exact we (by simp (disch:=omega) only [We,zShe,Zm,go_sem,seval])
       ·have e:Y9 t sp k g d s M=(⟨g.1,s+g.1-d,{ M with fin:=g.1,miles:=M.miles+g.2.1 }⟩,0):=by rw [Y9,if_neg h1,if_pos Za,if_neg h3,if_neg h4]
        have hMc:M.times_c=false:=by
         rw [<- hM,XB,if_neg Za]
         grind
        rw [e];exact we (by simp (disch:=omega) only [hMc,go_sem,seval])
     ·have h2': ¬k=sp.length:=Za
      have hkl:k<sp.length:=Za
      have hstp:=hok.stp _ (ZH hkl);refine X4 (jH (nth sp k) g.1) ?_;unfold MH
      by_cases h3:(nth sp k).cls<max g.1 (nth sp k).opn
      ·have e:Y9 t sp k g d s M=(We,14):=by simp_all [Y9]
       rw [e,if_pos h3];refine Zc ?_;exact we (by simp (disch:=omega) only [We,zShe,Zm,go_sem,seval])
      ·rw [if_neg h3];refine Zc ?_;refine Zr (Weak.fz (o:=4) (by rfl)) (Zf [] _ _ _ _ (VG ?_));refine cD ?_ ?_<;>intro h4<;>simp (disch:=omega) only [Sh.out h4,go_sem,seval,↓reduceIte]
       ·have e:Y9 t sp k g d s M=(We,16):=by simp_all [Y9]
        rw [e];exact we (by simp (disch:=omega) only [We,zShe,Zm,go_sem,seval])
       ·have e:Y9 t sp k g d s M=(⟨max g.1 (nth sp k).opn+(nth sp k).serv,s+g.1-d,{ M with times_c:=false,times:=M.times++ [⟨g.1,max g.1 (nth sp k).opn,0,false⟩],miles:=M.miles+g.2.1 }⟩,0):=by simp_all [Y9,if_neg]
        rw [e];exact we
theorem RI {x t sp k L b} (hs:0<sp.length) (hc:0<k->L.she.times_c=false) (he:(XT x t sp k L b).2=0):(XT x t sp k L b).1.she.times_c=false:=by
 have hm:0<k->(XB k (ZE t L b) b L.she).times_c=false:=fun h=>by rw [XB,if_neg Za];exact hc h
 unfold XT at he ⊢
 generalize YH x t sp k (ZE t L b)=g at *
 generalize ZE t L b=d at *
 generalize Wy L b=s at *
 generalize XB k d b L.she=m at *
 unfold Y9 at he ⊢
 grind
structure LabO (n k:Nat) (L:Lab):Prop where
 rng:LabR k L
 len:k<=n->L.she.times.length=k
 clip:0<k->L.she.times_c=false
theorem F6 {x t sp k L b} (hok:TrpOk x t sp) (hs:0<sp.length) (hk:k<=sp.length) (h:LabO sp.length k L) (he:(XT x t sp k L b).2=0):LabO sp.length (k+1) (XT x t sp k L b).1 :=
 ⟨HA hok hk h.rng he,fun hk2=>Ec (h.len hk) he Za,fun _=>RI hs h.clip he⟩
theorem F7 {x t sp} (hok:TrpOk x t sp) {st:Int} (hst:0<=st/\st<=4096):LabO sp.length 0 (Xy t st) :=
 ⟨⟨by have:=hok.opn;grind [Xy],by simp [Xy],by simp [Xy,zShe]⟩,fun _=>rfl,fun h=>Za⟩
theorem OV (x:Inst) (t:Typ) (r:Rte) (c:Bool) (sp:List Stp) (hok:TrpOk x t sp) (k:Nat) (hk:k<=sp.length) (hs1:0<sp.length) (L:Lab) (hL:LabO sp.length k L) (b:Bool) :
  PT 295 [.p (IW x t r c sp),.p (QM L),.p (.int .i64 (k:Nat)),.p (.bool b)] [.p (QM (XT x t sp k L b).1),.p (.int .i64 (XT x t sp k L b).2)] :=
 Zaq x t r c sp hok k hk hs1 L hL.rng (hL.len hk) hL.clip b
theorem Zg3 (x:Inst) (t:Typ) (r:Rte) (c:Bool) (sp:List Stp) (hok:TrpOk x t sp) (hs1:0<sp.length) (hst:0<=r.start/\r.start<=4096) (bs:List Bool) (d:Bool) (hb:bs.length=sp.length+1) :
  PT 272 [.p (IW x t r c sp),.p (.list d (bs.map eB))] [.p (AK (Xu x t sp 0 (Xy t r.start) bs).1.she),.p (.int .i64 (Xu x t sp 0 (Xy t r.start) bs).2)]:=by
 have hsl:=hok.len;refine Zg [] Tryz.func272 rfl yF ?_;simp (disch:=omega) only [Tryz.f272,go_sem,seval];refine (FI x t r c sp).use (Zc ?_)
 refine Zl [2,4,6,13,14] (fun q:Nat×Lab=> [(15,.p (.int .i64 q.1))]) (fun q=> [YD x t r c sp,.cells [.p (.bool false),.p (.int .i64 0),.p (.list true []),.p (.int .i64 0),.p (.int .i64 0)],Wh q.2])
  (fun q=>q.1<=bs.length/\Xu x t sp 0 (Xy t r.start) bs=Xu x t sp q.1 q.2 (bs.drop q.1)/\LabO sp.length q.1 q.2) (fun q=>bs.length-q.1) (0,Xy t r.start) ⟨Zb,Zb,F7 hok hst⟩ (Weak.mk ?_) ?_
 ·simp (disch:=omega) only [YD,Wh,go_sem,seval]
 ·rintro ⟨k,L⟩ ⟨hk,hrun,hL⟩;simp only at hk hrun hL;simp (disch:=omega) only [YD,Wh,go_sem,seval];refine cD ?_ ?_<;>intro h1<;>simp (disch:=omega) only [Sh.out h1,go_sem,seval,↓reduceIte]
  ·have hk2:k<bs.length:=Za
   have hdrop:bs.drop k=nth bs k::bs.drop (k+1):=by rw [Ug hk2,Zh hk2]
   rw [hdrop,Xu] at hrun;have cn:=OV x t r c sp hok k Za hs1 L hL (nth bs k);have hL2:=F6 (x:=x) (t:=t) (b:=nth bs k) hok hs1 Za hL
   generalize XT x t sp k L (nth bs k)=N at *
   refine X4 cn (Zc ?_);refine ZD ?_ ?_<;>intro h2
   ·rw [hrun,if_neg h2];exact we (by simp (disch:=omega) only [We,zShe,Zm,go_sem,seval])
   ·rw [if_pos Za] at hrun;exact ⟨(k+1,N.1),⟨Za,hrun,hL2 Za⟩,Za,wk⟩
  ·have hkl:k=bs.length:=Za
   subst hkl;rw [JE,Xu] at hrun;rw [hrun];exact we
theorem jF (l m:Lab):PC 298 [.p (QM l),.p (QM m)] (.bool (Z8 l m)):=by
 refine Zd Tryz.func298 rfl zA ?_;simp (disch:=omega) only [Tryz.f298,go_sem,seval];refine gT ?_ ?_<;>intro h<;>simp (disch:=omega) only [Sh.out h,go_sem,seval,↓reduceIte]
 ·simp [Z8,h]
 ·simp [Z8,h]
def gH (x:Inst) (t:Typ) (r:Rte) (c:Bool) (sp:List Stp) (o:List Lab) (f z:Lab):List AM.Obj:= [YD x t r c sp,.dead,.elems 7 (o.map QM),Wh f,Wh z]
theorem kW (x:Inst) (t:Typ) (r:Rte) (c:Bool) (sp:List Stp) (o:List Lab) (f z m:Lab):ACalls Tryz.prog 297 [.p (QM m),.ptr 4 0] (gH x t r c sp o f z) fun y H'=>y= .p (.bool (Z8 m z))/\H'=gH x t r c sp o f z:=by
 refine Zg [] Tryz.func297 rfl yZ ?_;simp (disch:=omega) only [Tryz.f297,gH,YD,Wh,go_sem,seval];refine (jF m z).use (Zc ?_);exact we
theorem M7 (x:Inst) (t:Typ) (r:Rte) (c:Bool) (sp:List Stp) (o:List Lab) (f z:Lab) (hl:o.length<=2097152) :
  ACalls Tryz.prog 314 [.sl 2 0 o.length o.length,.fn (.func 297) [] [.ptr 4 0]] (gH x t r c sp o f z) fun y H'=>y= .p (.int .i64 (qE (fun m=>Z8 m z) o))/\H'=gH x t r c sp o f z:=by
 refine Zg [] Tryz.func314 rfl zQ ?_;simp (disch:=omega) only [Tryz.f314,gH,YD,Wh,go_sem,seval];refine Zl [0,1,7] (fun k:Nat=> [(8,.p (.int .i64 k))]) (fun _=>gH x t r c sp o f z) (fun k=>k<=o.length/\ ∀j,j<k->Z8 (nth o j) z=false) (fun k=>o.length-k) 0 Zb (Weak.mk ?_) ?_
 ·simp (disch:=omega) only [gH,YD,Wh,go_sem,seval,↓reduceIte]
 ·rintro k ⟨hk,hno⟩;simp (disch:=omega) only [gH,YD,Wh,go_sem,seval];refine cD ?_ ?_<;>intro h<;>simp (disch:=omega) only [Sh.out h,go_sem,seval,↓reduceIte]
  ·have hk2:k<o.length:=Za
   have hg:=kW x t r c sp o f z (nth o k);simp (disch:=first | omega | (simp only [Zz,ZA,ZI,ZM,ZY,Xf]<;>omega)) only [WY hk2,hk2,go_sem,seval,↓reduceIte];simp (disch:=omega) only [gH,YD,Wh,go_sem,seval] at hg;refine hg.useH (Zc ?_);refine cD ?_ ?_<;>intro h2<;>simp (disch:=omega) only [Sh.out h2,go_sem,seval,↓reduceIte]
   ·rw [aY (f:=fun m=>Z8 m z) hk2 h2 hno];exact we
   ·exact ⟨k+1,⟨Za,Zn.2 ⟨hno,Za⟩⟩,Za,wk⟩
  ·have hkl:k=o.length:=Za
   subst hkl;rw [bA hno];exact we
theorem Ff (x:Inst) (t:Typ) (r:Rte) (c:Bool) (sp:List Stp) (o:List Lab) (f z:Lab) (hl:o.length<=2097152) :
  ACalls Tryz.prog 296 [.sl 2 0 o.length o.length,.fn (.func 297) [] [.ptr 4 0]] (gH x t r c sp o f z) fun y H'=>y= .p (.bool (o.any fun m=>Z8 m z))/\H'=gH x t r c sp o f z:=by
 refine Zg [] Tryz.func296 rfl yY ?_;simp (disch:=omega) only [Tryz.f296,go_sem,seval];refine (M7 x t r c sp o f z hl).useH (Zc ?_);rw [aZ];exact we (by simp (disch:=omega) only [gH,YD,Wh,go_sem,seval])
def AD (x:Inst) (t:Typ) (sp:List Stp) (r:List Bool) (k:Nat) (f:Lab) (bs:List Bool) (l:List Lab):List Lab:=bs.filterMap (XL x t sp k f)++WK (XL x t sp) (VS r) k l
theorem uH (x:Inst) (t:Typ) (r:Rte) (c:Bool) (sp:List Stp) (hok:TrpOk x t sp) (hs1:0<sp.length) (k:Nat) (hk:k<=sp.length) (hrl:r.rests.length<=1048576) (l:List Lab) (d:Bool) (hl:l.length<=1048576) (hL: ∀L∈l,LabO sp.length k L) :
  PC 271 [.p (IW x t r c sp),.p (.list d (l.map QM)),.p (.int .i64 (k:Nat))] (.list false ((XU Z8 [] (WK (XL x t sp) (VS r.rests) k l)).map QM)):=by
 have hsl:=hok.len;refine Zg [2,16] Tryz.func271 rfl yE ?_;simp (disch:=omega) only [Tryz.f271,go_sem,seval];refine Zr (Weak.fz (o:=1) (by rfl)) (VG ?_);refine ZC [1,2,3] (fun cb:Bool=> [(7,.p (.list cb ((VS r.rests k).map eB)))]) (fun _=> [YD x t r c sp,.dead]) (fun _=>True) ?_ ?_
 ·refine Zc ?_;refine ZD ?_ ?_<;>intro h
  ·have hk2:k<r.rests.length:=Za
   have e:VS r.rests k=(r.rests.take (k+1)).drop k:=by
    grind [VS,Xw]
   exact ⟨r.rests_c&&decide ((k:Int)+1=(r.rests.length:Int)),Weak.mk (by simp (disch:=omega) only [YD,e,go_sem,seval])⟩
  ·have e:VS r.rests k= [false,true]:=by grind [VS]
   exact ⟨false,Weak.mk (by simp (disch:=omega) only [YD,e,Zt,Zm,go_sem,seval])⟩
 ·intro cb _
  have hch:(VS r.rests k).length<=2:=by grind [VS]
  refine Zf [16] _ _ _ _ ?_;simp (disch:=omega) only [YD,go_sem,seval]
  refine ZT [16] [2,3,7,29,30] (fun q:Nat×List Lab=> [(8,.sl 2 0 q.2.length q.2.length),(31,.p (.int .i64 q.1))]) (fun q=> [YD x t r c sp,.dead,.elems 7 (q.2.map QM)])
   (fun q=>q.1<=l.length/\XU Z8 [] (WK (XL x t sp) (VS r.rests) k l)=XU Z8 q.2 (WK (XL x t sp) (VS r.rests) k (l.drop q.1))/\q.2.length<=2*q.1) (fun q=>l.length-q.1) (0,[]) Zb (Weak.ofNil 8 7 rfl Zb (Weak.mk ?_)) ?_
  ·simp (disch:=omega) only [YD,Zm,ZA,go_sem,seval]
  ·rintro ⟨i,o⟩ ⟨hi,hpr,hol⟩;simp only at hi hpr hol;simp (disch:=omega) only [YD,go_sem,seval];refine cD ?_ ?_<;>intro h1<;>simp (disch:=omega) only [Sh.out h1,go_sem,seval,↓reduceIte]
   ·have hi2:i<l.length:=Za
    have hLi:=hL _ (ZH hi2)
    have hdrop:l.drop i=nth l i::l.drop (i+1):=by rw [Ug hi2,Zh hi2]
    rw [hdrop] at hpr;have hpr:XU Z8 [] (WK (XL x t sp) (VS r.rests) k l)=XU Z8 o (AD x t sp r.rests k (nth l i) ((VS r.rests k).drop 0) (l.drop (i+1))):=hpr
    refine Zl [2,3,7,10,29,30,31,35,36] (fun q:Nat×List Lab=> [(8,.sl 2 0 q.2.length q.2.length),(37,.p (.int .i64 q.1))]) (fun q=> [YD x t r c sp,.dead,.elems 7 (q.2.map QM),Wh (nth l i)])
     (fun q=>q.1<=(VS r.rests k).length/\XU Z8 [] (WK (XL x t sp) (VS r.rests) k l)=XU Z8 q.2 (AD x t sp r.rests k (nth l i) ((VS r.rests k).drop q.1) (l.drop (i+1)))/\q.2.length<=2*i+q.1) (fun q=>(VS r.rests k).length-q.1) (0,o) ⟨Zb,hpr,hol⟩ (Weak.mk ?_) ?_
    ·simp (disch:=omega) only [YD,Wh,go_sem,seval]
    ·clear hpr hol;rintro ⟨j,o⟩ ⟨hj,hpr,hol⟩;simp only at hj hpr hol;simp (disch:=omega) only [YD,Wh,go_sem,seval];refine ZD ?_ ?_<;>intro h2
     ·have hj2:j<(VS r.rests k).length:=Za
      have hd2:(VS r.rests k).drop j=nth (VS r.rests k) j::(VS r.rests k).drop (j+1):=by rw [Ug hj2,Zh hj2]
      have cn:=OV x t r c sp hok k hk hs1 (nth l i) hLi (nth (VS r.rests k) j);have ho2:XL x t sp k (nth l i) (nth (VS r.rests k) j)=if (XT x t sp k (nth l i) (nth (VS r.rests k) j)).2=0 then some (XT x t sp k (nth l i) (nth (VS r.rests k) j)).1 else none:=rfl;rw [hd2,AD,List.filterMap_cons,ho2] at hpr
      generalize XT x t sp k (nth l i) (nth (VS r.rests k) j)=N at *
      refine X4 cn (Zc ?_);refine K6 ?_ ?_<;>intro h3
      ·have hcl:=Ff x t r c sp o (nth l i) N.1 Za;simp (disch:=omega) only [gH,YD,Wh,go_sem,seval] at hcl;refine hcl.useH (Zc ?_);rw [if_pos h3] at hpr;have hpr:XU Z8 [] (WK (XL x t sp) (VS r.rests) k l)=if (o.any fun m=>Z8 m N.1)=true then XU Z8 o (AD x t sp r.rests k (nth l i) ((VS r.rests k).drop (j+1)) (l.drop (i+1))) else XU Z8 (o++ [N.1]) (AD x t sp r.rests k (nth l i) ((VS r.rests k).drop (j+1)) (l.drop (i+1))):=hpr;refine ZD ?_ ?_<;>intro h4
       ·rw [if_neg (by grind)] at hpr;exact ⟨(j+1,o++ [N.1]),⟨Za,hpr,by simp;omega⟩,Za,Weak.mk (by simp (disch:=omega) only [ZI,Zz,ZA,Xx,Zt,Zm,go_sem,seval])⟩
       ·rw [if_pos (by grind)] at hpr;exact ⟨(j+1,o),⟨Za,hpr,by grind⟩,Za,wk⟩
      ·rw [if_neg h3] at hpr;exact ⟨(j+1,o),⟨Za,hpr,by grind⟩,Za,wk⟩
     ·have hjl:j=(VS r.rests k).length:=Za
      subst hjl;rw [JE,AD,List.filterMap_nil,ZG] at hpr;exact ⟨(i+1,o),⟨Za,hpr,by grind⟩,Za,wk⟩
   ·have hil:i=l.length:=Za
    subst hil;have e:WK (XL x t sp) (VS r.rests) k []= []:=rfl;rw [JE,e,XU] at hpr;rw [hpr];refine Zr (Weak.fz (o:=2) (by rfl)) (Zf [] _ _ _ _ (VG ?_));exact we
def kE : PV:= .agg [.list true [],.list true [],.list true [],.list true [],.list true [],.list true [],.str [],.int .i64 0,.int .i64 0,.int .i64 0,.list true [],.int .i64 0,.int .i64 0,.int .i64 0,.int .i64 0,.int .i64 0,.int .i64 0,.int .i64 0,.int .i64 0,.int .i64 0,.int .i64 0,.int .i64 0,.list true [],.list true [],.list true []]
theorem mF (x:Inst) (r:Rte) (hty:0<=r.typ/\r.typ<(x.types.length:Int)) (htl:x.types.length<=1048576) (hvl:r.visits.length<=20) (hs: ¬(0<=r.start/\r.start<=4096)) :
  PT 269 [.p (ZF x),.p (Z0 r)] [.p kE,.p (.bool false)]:=by
 have e1: ¬r.typ<0:=Za
 have e2: ¬(x.types.length:Int)<=r.typ:=Za
 refine Zg [] Tryz.func269 rfl bM ?_;simp (disch:=omega) only [Tryz.f269,e1,e2,go_sem,seval];refine gF ?_ ?_<;>intro h1<;>simp (disch:=omega) only [Sh.out h1,go_sem,seval,↓reduceIte]
 ·exact we (by simp (disch:=omega) only [kE,go_sem,seval])
 ·refine gF ?_ ?_<;>intro h2<;>simp (disch:=omega) only [Sh.out h2,go_sem,seval,↓reduceIte]
  ·exact we (by simp (disch:=omega) only [kE,go_sem,seval])
  ·omega
theorem LO {x t sp} : ∀(bs:List Bool) (k:Nat) (L:Lab),¬(Xu x t sp k L bs).2=0->(Xu x t sp k L bs).1=We
 | [],k,L,h=>by simp [Xu] at h
 | b::bs,k,L,h=>by
  rw [Xu] at h ⊢
  split
  ·rename_i c;rw [if_pos c] at h;exact LO bs (k+1) _ h
  ·rfl
theorem Rj (n:Nat):List.replicate n false∈YU (List.replicate n false):=by
 rw [fromB_next];simp
theorem aU {l:List Lab} (h:Vb Y3 none l=none):l= []:=by
 cases l with
 | nil=>rfl
 | cons a l =>
  obtain ⟨z,hz,_⟩:=Qg (fin:=Y3) l a;have:Vb Y3 none (a::l)=Vb Y3 (some a) l:=rfl
  grind
theorem PU {x t sp} {st:Int} {r:List Bool} (h:Vb Y3 none ((YP r (sp.length+1)).filterMap (Va (XL x t sp) 0 (Xy t st)))=none): ¬(Xu x t sp 0 (Xy t st) (YY r (sp.length+1))).2=0:=fun h0=>by
 have h1:=aU h;have h2:YY r (sp.length+1)∈YP r (sp.length+1):=XM.2 ⟨_,Rj _,rfl⟩
 simp_all [VF]
theorem MK {x t sp} {st:Int} {r:List Bool} (hr:r.length<=sp.length+1) (h:Vb Y3 none (Jf Z8 (XL x t sp) (VS r) (sp.length+1) 0 [Xy t st])=none): ¬(Xu x t sp 0 (Xy t st) (YY r (sp.length+1))).2=0 :=
 PU (by rw [F8,W4,FT r _ hr] at h;exact h)
def Qb (x:Inst) (r:Rte):She×Int:=if 0<=r.start/\r.start<=4096/\r.rests.length<=r.visits.length+1 then Xl x r else (zShe,2)
theorem TF {x t sp} {ch:Nat->List Bool} {k:Nat} {l:List Lab} (hok:TrpOk x t sp) (hs:0<sp.length) (hk:k<=sp.length) (h: ∀L∈l,LabO sp.length k L): ∀L∈XU Z8 [] (WK (XL x t sp) ch k l),LabO sp.length (k+1) L:=fun L hL=>by
 have h1:=KD Z8 _ _ L hL;rw [ZG] at h1;obtain ⟨a,ha,hb⟩:=W2.1 h1
 grind [XL,F6]
theorem Ce : ∀(c out:List Lab),(XU Z8 out c).length<=out.length+c.length
 | [],out=>by simp [XU]
 | x::c,out=>by
  rw [XU]
  split
  ·have:=Ce c out;simp;omega
  ·have:=Ce c (out++ [x]);simp at this ⊢;omega
theorem FK {x t sp} {r:List Bool} {k:Nat} : ∀l:List Lab,(WK (XL x t sp) (VS r) k l).length<=2*l.length
 | []=>by simp [WK]
 | a::l=>by
  have ih:=FK (x:=x) (t:=t) (sp:=sp) (r:=r) (k:=k) l;have h1:(WK (XL x t sp) (VS r) k (a::l))=(VS r k).filterMap (XL x t sp k a)++WK (XL x t sp) (VS r) k l:=rfl
  grind [VS]
theorem lY (x:Inst) (r:Rte) (hx:InstOk x) (hl:r.visits.length<=1048576) (hrl:r.rests.length<=1048576) (hty:0<=r.typ/\r.typ<(x.types.length:Int)) (h0:Xk x r.visits=0) :
  PT 221 [.p (ZF x),.p (Z0 r)] [.p (AK (Qb x r).1),.p (.int .i64 (Qb x r).2)]:=by
 have hd:=Uy hx;have hsq:=W6 h0;have hol:=hd.ord;have htl:=hd.typ;have hvl:=hsq.len hol;have hok:=Qw hx hty hsq;have hsl:(Xs x r.visits).length=r.visits.length:=X0
 have hs1:0<(Xs x r.visits).length:=by
  rw [hsl];have:=hsq.ne
  grind
 refine Zg [6,13,14] Tryz.func221 rfl wX ?_;simp (disch:=omega) only [Tryz.f221,go_sem,seval]
 by_cases hs:0<=r.start/\r.start<=4096
 ·refine X4 (ZaE x r hx hty h0 hs) (Zc ?_);refine cD ?_ ?_<;>intro h1<;>simp (disch:=omega) only [Sh.out h1,go_sem,seval,↓reduceIte]
  ·have e:Qb x r=(zShe,2):=by rw [Qb,if_neg Za]
   rw [e];exact we (by simp (disch:=omega) only [zShe,Zm,go_sem,seval])
  ·have hrs:r.rests.length<=r.visits.length+1:=Za
   have e:Qb x r=Xl x r:=by simp_all [Qb]
   have hbn:= @MK x (ZR x r) (Xs x r.visits) r.start r.rests Za;rw [e,Xl,G4 Za];refine (FI x (ZR x r) r false (Xs x r.visits)).use (Zc ?_)
   generalize hT:ZR x r=t at *
   generalize hS:Xs x r.visits=sp at *
   refine Zr (Weak.fz (o:=4) (by rfl)) ?_;refine Zf [13,14] _ _ _ _ (Zc ?_)
   refine ZT [13,14] [3,4,6,8,38] (fun q:Nat×List Lab=> [(9,.p (.list false (q.2.map QM))),(39,.p (.int .i64 q.1))]) (fun _=> [Zj x,ZO r,.cells [.p (.bool false),.p (.int .i64 0),.p (.list true []),.p (.int .i64 0),.p (.int .i64 0)],YD x t r false sp,.dead])
    (fun q=>q.1<=sp.length+1/\Jf Z8 (XL x t sp) (VS r.rests) (sp.length+1) 0 [Xy t r.start]=Jf Z8 (XL x t sp) (VS r.rests) (sp.length+1-q.1) q.1 q.2/\(∀L∈q.2,LabO sp.length q.1 L)/\q.2.length<=2^q.1) (fun q=>sp.length+1-q.1) (0,[Xy t r.start]) ⟨Zb,Zb,fun L hL=>by grind [F7],Zb⟩ (Weak.mk ?_) ?_
   ·simp (disch:=omega) only [Zj,ZO,YD,Zt,Zm,Xp,Z7,go_sem,seval]
   ·rintro ⟨k,l⟩ ⟨hk,hit,hlo,hll⟩;simp only at hk hit hlo hll;simp (disch:=omega) only [Zj,ZO,YD,go_sem,seval];refine cD ?_ ?_<;>intro h2<;>simp (disch:=omega) only [Sh.out h2,go_sem,seval,↓reduceIte]
    ·have hk2:k<=sp.length:=Za
     have hp20:2^k<=2^20:=Wk Za Za;refine (uH x t r false sp hok hs1 k hk2 hrl l false Za hlo).use (Zc ?_)
     have hn:Jf Z8 (XL x t sp) (VS r.rests) (sp.length+1-k) k l=Jf Z8 (XL x t sp) (VS r.rests) (sp.length+1-(k+1)) (k+1) (XU Z8 [] (WK (XL x t sp) (VS r.rests) k l)):=by
      have e:sp.length+1-k=(sp.length+1-(k+1))+1:=Za
      rw [e,Jf]
     have hln:=Ce (WK (XL x t sp) (VS r.rests) k l) [];have hln2:=FK (x:=x) (t:=t) (sp:=sp) (r:=r.rests) (k:=k) l;exact ⟨(k+1,XU Z8 [] (WK (XL x t sp) (VS r.rests) k l)),⟨Za,hit.trans hn,TF hok hs1 hk2 hlo,by grind⟩,Za,Weak.mk (by simp (disch:=omega) only [Xp,Z7,go_sem,seval])⟩
    ·have hkn:k=sp.length+1:=Za
     subst hkn;rw [Nat.sub_self,Jf] at hit;rw [hit] at hbn ⊢;clear hit;refine cD ?_ ?_<;>intro h3<;>simp (disch:=omega) only [Sh.out h3,go_sem,seval,↓reduceIte]
     ·have hl0:l= []:=Yb Za;subst hl0;have hbn:=hbn rfl;refine Vt (G3 3 rfl rfl (Zc ?_));refine ⟨_,_,Ly (e:=4) rfl Tryz.underlying46 Ze rfl rfl rfl ?_ ?_ ?_,?_⟩
      ·simp
      ·simp;omega
      ·intro q hq;obtain ⟨b,_,rfl⟩:=XM.1 hq
       rfl
      ·have hpl:(YY r.rests (sp.length+1)).length=sp.length+1:=by simp [YY];omega
       have hpad:r.rests.map eB++(PV.bool false::List.replicate r.visits.length (PV.bool false)).drop (r.rests.map eB).length=(YY r.rests (sp.length+1)).map eB:=by
        rw [YY,Xx,<- Ac,List.drop_replicate,List.map_replicate,hsl,ZM];rfl
       have hcr:=Zg3 x t r false sp hok hs1 hs (YY r.rests (sp.length+1)) false hpl;have hbad:=LO _ _ _ hbn;rw [hbad] at hcr;simp only [Xp,Z7];rw [hpad]
       generalize hRP:YY r.rests (sp.length+1)=rp at *
       refine Zr (Weak.fz (o:=5) (by rfl)) (Zf [] _ _ _ _ (VG ?_));rw [if_pos Za];refine X4 hcr (Zc ?_);have hfm0:Vb Y3 none ([]:List Lab)=none:=rfl;rw [hfm0];exact we (by simp (disch:=omega) only [We,zShe,Zm,go_sem,seval])
     ·cases l with
      | nil=>simp at h3
      | cons l0 l =>
       have e0:UT ((l0::l).map QM) 0=QM l0:=rfl;have hn0:nth (l0::l) 0=l0:=rfl;simp (disch:=first | omega | (simp only [Zz,ZA,ZI,ZM,ZY,Xf]<;>omega)) only [hn0,XZ,go_sem,seval];have hfm:Vb Y3 none (l0::l)=Vb Y3 (some l0) l:=rfl;rw [hfm]
       have hlen:l.length<=2097152:=by
        have hp20:2^(sp.length+1)<=2^21:=Wk Za Za
        grind
       refine Zl [4,12,65,66] (fun q:Nat×Lab=> [(67,.p (.int .i64 q.1))]) (fun q=> [Zj x,ZO r,.cells [.p (.bool false),.p (.int .i64 0),.p (.list true []),.p (.int .i64 0),.p (.int .i64 0)],YD x t r false sp,.dead,Wh q.2])
        (fun q=>q.1<=l.length/\Vb Y3 (some l0) l=Vb Y3 (some q.2) (l.drop q.1)) (fun q=>l.length-q.1) (0,l0) Zb (Weak.mk ?_) ?_
       ·simp (disch:=omega) only [Zj,ZO,YD,Wh,go_sem,seval]
       ·rintro ⟨i,m⟩ ⟨hi,hm⟩;simp only at hi hm;simp (disch:=omega) only [Zj,ZO,YD,Wh,go_sem,seval];refine cD ?_ ?_<;>intro h4<;>simp (disch:=omega) only [Sh.out h4,go_sem,seval,↓reduceIte]
        ·have hi2:i<l.length:=Za
         have hdrop:l.drop i=nth l i::l.drop (i+1):=by rw [Ug hi2,Zh hi2]
         rw [hdrop,Vb] at hm;refine ZD ?_ ?_<;>intro h5
         ·rw [if_pos (show Y3 (nth l i)<Y3 m from h5)] at hm;exact ⟨(i+1,nth l i),⟨Za,hm⟩,Za,wk⟩
         ·rw [if_neg (show ¬Y3 (nth l i)<Y3 m from h5)] at hm;exact ⟨(i+1,m),⟨Za,hm⟩,Za,wk⟩
        ·have hil:i=l.length:=Za
         subst hil;rw [JE,Vb] at hm;rw [hm];exact we
 ·have e:Qb x r=(zShe,2):=by rw [Qb,if_neg (fun h=>hs ⟨h.1,h.2.1⟩)]
  rw [e];refine X4 (mF x r hty htl hvl hs) ?_;simp (disch:=omega) only [kE,go_sem,seval];exact we (by simp (disch:=omega) only [zShe,Zm,go_sem,seval])
end Go.Proofs.YtiigdaohjanidaaGreatDoor.K
namespace Go.AM
open Go.RowKit
theorem cM (k v:Int) (l:List (Int×Int)): ∃l',cL (.int .i64 k) (.int .i64 v) (l.map eII)=l'.map eII/\(∀q,JI l' q=if q=k then v else JI l q)/\l'.length<=l.length+1:=by
 unfold cL;rw [B5]
 cases hm:Gi l k with
 | none =>
  refine ⟨l++ [(k,v)],by simp [eII],fun q=> ?_,Zb⟩
  have e1:Gi (l++ [(k,v)]) k=some l.length:=by
   grind [Gi]
  by_cases hq:q=k
  ·grind [JI]
  ·rw [if_neg hq];unfold JI
   have e3:Gi (l++ [(k,v)]) q=Gi l q:=by
    grind [Gi]
   rw [e3]
   cases hc:Gi l q with
   | none=>rfl
   | some i =>
    unfold Gi at hc
    grind [UZ]
 | some i =>
  refine ⟨l.set i (k,v),by simp_all [eII],?_,Zb⟩;have hH:oat [.map (l.map eII)] 0= .map (l.map eII):=rfl;have:=Nf (H:= [.map (l.map eII)]) (o:=0) (l:=l) (k:=k) (i:=i) (v:=v) (K:=fun _ _=> ∀q,JI (l.set i (k,v)) q=if q=k then v else JI l q) hH hm fun h=>h;unfold J9 at this;obtain ⟨u,q1,_⟩:=D6 hm
  simp_all [KV]
theorem cN {P:Program} {H:List Obj} {t:TypeId} {o:Nat} {l:List (Int×Int)} {k v:Int} {K:V->List Obj->Prop} (hT:cB P t=some (.int .i64,some (.int .i64 0))) (hH:oat H o= .map (l.map eII))
  (h: ∀l':List (Int×Int),(∀q,JI l' q=if q=k then v else JI l q)->K .junk (H.set o (.map (l'.map eII)))):KV (Cu P H t (.mp o) (.p (.int .i64 k)) (.p (.int .i64 v))) K:=by
 obtain ⟨kt,et,h1,h2,h3⟩:=Lo hT;obtain ⟨l',e,hg,_⟩:=cM k v l
 grind [Cu,Gb,KV]
end Go.AM
namespace Go.Proofs.YtiigdaohjanidaaGreatDoor.K
open Go Go.AM Go.Proofs
set_option maxRecDepth 8000
set_option maxHeartbeats 8000000
def DE (l:List Vis) (k:Nat) (q:Int):Int:=((l.take k).countP fun v=>decide (v.order=q):Nat)
theorem P4 {l:List Vis} {k:Nat} (h:k<l.length) (q:Int):DE l (k+1) q=if q=(nth l k).order then DE l k q+1 else DE l k q:=by
 unfold DE;rw [Xw h,List.countP_append,Zh h]
 grind
theorem TT {l:List Vis} {k:Nat} (h:k<=l.length) (q:Int):0<=DE l k q/\DE l k q<=k:=by
 grind [DE,ZY]
theorem MP {l:List Vis} {k:Nat} :VK l k=decide (DE l k (nth l k).order=0):=by
 unfold VK DE;rw [Yp];simp
theorem Ae (a b:Int):PC 273 [.p (.int .i64 a),.p (.int .i64 b)] (.bool (Xg a b)):=by
 refine Zd Tryz.func273 rfl yG ?_;simp (disch:=omega) only [Tryz.f273,go_sem,seval];refine gT ?_ ?_<;>intro h<;>simp (disch:=omega) only [Sh.out h,go_sem,seval,↓reduceIte]
 ·simp [Xg,h]
 simp_all [Xg]
theorem dW (x:Inst) (r:Rte) (s:She) (hty:0<=r.typ/\r.typ<(x.types.length:Int)) (ho:x.orders.length<=1048576) (ht:x.types.length<=1048576) (hl:r.visits.length<=1048576) (hv:Inr x r.visits)
  (hc:0<=(ZR x r).fixed/\(ZR x r).fixed<=100000/\0<=(ZR x r).perMile/\(ZR x r).perMile<=100/\0<=(ZR x r).perTick/\(ZR x r).perTick<=100) (ho2:0<=(ZR x r).opn/\(ZR x r).opn<=4096)
  (hf: -4096<=s.fin/\s.fin<=8192) (hm:0<=s.miles/\s.miles<=1000000) :
  PC 222 [.p (ZF x),.p (Z0 r),.p (AK s)] (Hi (HR x r s)):=by
 have hti:r.typ.toNat<x.types.length:=Za
 have hT:cB Tryz.prog 334=some (.int .i64,some (.int .i64 0)):=Ze
 unfold HR;have htd:nth x.types r.typ.toNat=ZR x r:=rfl
 generalize ZR x r=t at *
 have e1: ¬r.typ<0:=Za
 have e2: ¬(x.types.length:Int)<=r.typ:=Za
 have p1:0<=t.perMile*s.miles/\t.perMile*s.miles<=100*1000000:=⟨VL Za Za,Vm Za Za Za Za⟩
 have hW: -8192<=s.fin-t.opn/\s.fin-t.opn<=8192:=Za
 have p2: -819200<=t.perTick*(s.fin-t.opn)/\t.perTick*(s.fin-t.opn)<=819200:=by
  generalize s.fin-t.opn=w at hW;have a1:=B3 hW.2 (show 0<=t.perTick by omega);have a2:=B3 hW.1 (show 0<=t.perTick by omega);omega
 have p3: -128<=(s.fin-t.opn).tdiv 64/\(s.fin-t.opn).tdiv 64<=128:=by
  grind
 have p4:0<=(s.fin-t.opn).tdiv 64*(s.fin-t.opn).tdiv 64/\(s.fin-t.opn).tdiv 64*(s.fin-t.opn).tdiv 64<=16384:=by
  generalize (s.fin-t.opn).tdiv 64=q at p3;refine ⟨?_,?_⟩
  ·rcases Kv 0 q with h | h
   ·exact VL h h
   ·exact Int.mul_nonneg_of_nonpos_of_nonpos h h
  ·rcases Kv 0 q with h | h
   ·have:=Vm p3.2 p3.2 h Za;omega
   ·have h2:0<= -q:=Za
    have:=Vm (show-q<=128 by omega) (show-q<=128 by omega) h2 Za
    grind
 refine Zd Tryz.func222 rfl wY ?_;simp (disch:=omega) only [Tryz.f222,e1,e2,htd,go_sem,seval]
 refine Zl [3,4,6,10,11,59,60] (fun q:Nat×List (Int×Int)=> [(61,.p (.int .i64 q.1))]) (fun q=> [Zj x,ZO r,.cells [.p (.bool s.rest),.p (.int .i64 s.dep),.p (.list s.times_c (s.times.map eTim)),.p (.int .i64 s.fin),.p (.int .i64 s.miles)],BC 0 0 0 0,Yg t,BC (t.fixed+t.perMile*s.miles+t.perTick*(s.fin-t.opn)) (chgF x r.visits r.typ q.1).1 (chgF x r.visits r.typ q.1).2 ((s.fin-t.opn).tdiv 64*(s.fin-t.opn).tdiv 64),.map (q.2.map eII)])
  (fun q=>q.1<=r.visits.length/\ ∀n,JI q.2 n=DE r.visits q.1 n) (fun q=>r.visits.length-q.1) (0,[]) ⟨Zb,fun n=>rfl⟩ (Weak.mk ?_) ?_
 ·simp (disch:=omega) only [Zj,ZO,Yg,BC,chgF,go_sem,seval]
 ·rintro ⟨k,m⟩ ⟨hk,hmg⟩;simp only at hk hmg;have hch:=AB (x:=x) (l:=r.visits) (t:=r.typ) k;simp (disch:=omega) only [Zj,ZO,Yg,BC,go_sem,seval];refine cD ?_ ?_<;>intro h1<;>simp (disch:=omega) only [Sh.out h1,go_sem,seval,↓reduceIte]
  ·have hk2:k<r.visits.length:=Za
   obtain ⟨v1,v2⟩:=hv _ (Zo hk2)
   have e3: ¬(nth r.visits k).order<0:=Za
   have e4: ¬(x.orders.length:Int)<=(nth r.visits k).order:=Za
   have v3:(nth r.visits k).order.toNat<x.orders.length:=Za
   have hcs:=P4 hk2;have hcr:=TT hk (nth r.visits k).order;have hfi:=MP (l:=r.visits) (k:=k);have hch2:chgF x r.visits r.typ (k+1)=_:=chgF.eq_2 x r.visits r.typ k;refine Lm hT rfl ?_;rw [hmg];refine Zc ?_;refine cN hT rfl fun m' hm'=> ?_
   have hmg': ∀n,JI m' n=DE r.visits (k+1) n:=fun n=>by grind
   simp (disch:=omega) only [e3,e4,Xp,Z7,go_sem,seval];refine Lm hT rfl ?_;rw [hm',if_pos rfl];refine Zc ?_;refine ZD ?_ ?_<;>intro h2
   ·have h3: ¬VK r.visits k=true:=by grind
    rw [if_neg h3] at hch2;exact ⟨(k+1,m'),⟨Za,hmg'⟩,Za,Weak.mk (by simp (disch:=omega) only [hch2,go_sem,seval])⟩
   ·have h3:VK r.visits k=true:=by grind
    rw [if_pos h3] at hch2;refine (Ae (nth x.orders (nth r.visits k).order.toNat).now r.typ).use (Zc ?_);refine cD ?_ ?_<;>intro h4<;>simp (disch:=omega) only [Sh.out h4,go_sem,seval,↓reduceIte]
    ·rw [if_pos h4] at hch2;refine (Ae (nth x.orders (nth r.visits k).order.toNat).last r.typ).use (Zc ?_);refine ZD ?_ ?_<;>intro h5
     ·rw [if_pos h5] at hch2;exact ⟨(k+1,m'),⟨Za,hmg'⟩,Za,Weak.mk (by simp (disch:=omega) only [hch2,go_sem,seval])⟩
     ·rw [if_neg (by rw [h5];simp)] at hch2;exact ⟨(k+1,m'),⟨Za,hmg'⟩,Za,Weak.mk (by simp (disch:=omega) only [hch2,VM,go_sem,seval])⟩
    ·rw [if_neg (by rw [h4];simp)] at hch2;refine (Ae (nth x.orders (nth r.visits k).order.toNat).last r.typ).use (Zc ?_);refine ZD ?_ ?_<;>intro h5
     ·rw [if_pos h5] at hch2;exact ⟨(k+1,m'),⟨Za,hmg'⟩,Za,Weak.mk (by simp (disch:=omega) only [hch2,VM,go_sem,seval])⟩
     ·rw [if_neg (by rw [h5];simp)] at hch2;exact ⟨(k+1,m'),⟨Za,hmg'⟩,Za,Weak.mk (by simp (disch:=omega) only [hch2,VM,go_sem,seval])⟩
  grind
end Go.Proofs.YtiigdaohjanidaaGreatDoor.K
namespace Go.Proofs.YtiigdaohjanidaaGreatDoor.K
open Go Go.AM Go.Proofs
set_option maxRecDepth 8000
set_option maxHeartbeats 8000000
@[go_sem] theorem Zb7 {f:FuncId} :(PV.fn f).cells= [.fn f]:=Zk rfl rfl
def ZaR : AM.Obj:= .cells [.p (.bool false),.p (.int .i64 0),.p (.list true []),.p (.int .i64 0),.p (.int .i64 0)]
theorem MS (x:Inst) (r:Rte) (hx:InstOk x) (hl:r.visits.length<=1048576) (hrl:r.rests.length<=1048576):ACalls Tryz.prog 164 [.p (ZF x),.p (Z0 r)] [] fun y H'=>y=AL x r/\H'= []:=by
 have hld:=Uy hx;have htl:=hld.typ;have hol:=hld.ord;have chk:=dX x r hx hl
 have htb:x.types.length<=6:=by have:=hx.types.1;simp only [rng,Zp] at this;omega
 refine Zg [] Tryz.func164 rfl vX ?_;simp (disch:=omega) only [Tryz.f164,go_sem,seval];refine gF ?_ ?_<;>intro h1<;>simp (disch:=omega) only [Sh.out h1,go_sem,seval,↓reduceIte]
 ·have e:X7 x r=2:=by rw [X7,if_pos Za]
  rw [Yl (e:=2) (by rw [evalE,e];rfl) Za];exact we (by simp (disch:=omega) only [zShe,zSco,Zm,go_sem,seval])
 ·refine cD ?_ ?_<;>intro h2<;>simp (disch:=omega) only [Sh.out h2,go_sem,seval,↓reduceIte]
  ·have e:X7 x r=2:=by simp_all [X7]
   rw [Yl (e:=2) (by rw [evalE,e];rfl) Za];exact we (by simp (disch:=omega) only [zShe,zSco,Zm,go_sem,seval])
  ·have hty:0<=r.typ/\r.typ<(x.types.length:Int):=Za
   have hti:r.typ.toNat<x.types.length:=Za
   have hnum:=Qx hx hti;have htyp:nth x.types r.typ.toNat=ZR x r:=rfl;rw [htyp] at hnum
   have hsk: ∀o∈x.orders,o.skills<9223372036854775808:=fun o hm=>by
    obtain ⟨i,hi,rfl⟩:=ZW.1 hm;have:=(hx.orders.2 i hi).skills
    grind [Zh]
   refine Zl [2,3,4,5,25,26] (fun k:Nat=> [(27,.p (.int .i64 k))]) (fun _=> [Zj x,ZO r,ZaR,BC 0 0 0 0,.elems 1 [.fn 218,.fn 219,.fn 220]])
    (fun k=>k<=3/\(0<k->Xk x r.visits=0)/\(1<k-> ¬(r.visits.any fun v=> !Wn (ZR x r) (nth x.orders v.order.toNat).skills)=true)/\(2<k->UE x (ZR x r).cap r.visits=true)) (fun k=>3-k) 0 ⟨Za,Za,Za,Za⟩ (Weak.mk ?_) ?_
   ·simp (disch:=omega) only [Zj,ZO,BC,ZaR,go_sem,seval]
   ·rintro k ⟨hk,k1,k2,k3⟩;simp (disch:=omega) only [Zj,ZO,BC,ZaR,go_sem,seval];refine cD ?_ ?_<;>intro h3<;>simp (disch:=omega) only [Sh.out h3,go_sem,seval,↓reduceIte]
    ·by_cases hk0:k=0
     ·subst hk0;have he:UT [PV.fn 218,PV.fn 219,PV.fn 220] 0=PV.fn 218:=rfl;simp (disch:=first | omega | (simp only [Zz,ZA,ZI,ZM,ZY,Xf]<;>omega)) only [he,go_sem,seval,↓reduceIte];refine (chk).use (Zc ?_);refine ZD ?_ ?_<;>intro h4
      ·have e:X7 x r=Xk x r.visits:=by simp_all [X7]
       rw [Yl (e:=Xk x r.visits) (by simp_all [evalE]) h4];exact we (by simp (disch:=omega) only [zShe,zSco,Zm,go_sem,seval])
      ·exact ⟨1,⟨Za,fun _=>Za,Za,Za⟩,Za,wk⟩
     ·have h0:=k1 Za;have hsq:=W6 h0
      have hr0:X7 x r=if (r.visits.any fun v=> !Wn (ZR x r) (nth x.orders v.order.toNat).skills)=true then 18 else if UE x (ZR x r).cap r.visits=false then 17 else if ¬(0<=r.start/\r.start<=4096/\r.rests.length<=r.visits.length+1) then 2 else 0:=by
       rw [X7,if_neg (fun h=>h hty),if_neg Za]
      by_cases hk1:k=1
      ·subst hk1;have he:UT [PV.fn 218,PV.fn 219,PV.fn 220] 1=PV.fn 219:=rfl;simp (disch:=first | omega | (simp only [Zz,ZA,ZI,ZM,ZY,Xf]<;>omega)) only [he,go_sem,seval,↓reduceIte];refine (dV x r hty (fun v hv=>by have:=hsq.inr v hv;grind [OC]) hl htl Za Za hsk).use (Zc ?_)
       by_cases h5:(r.visits.any fun v=> !Wn (ZR x r) (nth x.orders v.order.toNat).skills)=true
       ·rw [if_pos h5] at hr0 ⊢;rw [Yl (e:=18) (by rw [evalE,hr0];rfl) Za];refine Zc ?_;exact we (by simp (disch:=omega) only [zShe,zSco,Zm,go_sem,seval])
       ·rw [if_neg h5];refine Zc ?_;exact ⟨2,⟨Za,fun _=>h0,fun _=>h5,Za⟩,Za,wk⟩
      ·have hk2:k=2:=Za
       subst hk2;have he:UT [PV.fn 218,PV.fn 219,PV.fn 220] 2=PV.fn 220:=rfl;simp (disch:=first | omega | (simp only [Zz,ZA,ZI,ZM,ZY,Xf]<;>omega)) only [he,go_sem,seval,↓reduceIte];refine (dR x r hx hl hty h0).use (Zc ?_);rw [if_neg (k2 Za)] at hr0
       cases h5:UE x (ZR x r).cap r.visits with
       | false =>
        rw [if_pos h5] at hr0;rw [Yl (e:=17) (by rw [evalE,hr0];rfl) Za];simp only [Yh,Yq];refine Zc ?_;exact we (by simp (disch:=omega) only [zShe,zSco,Zm,go_sem,seval])
       | true =>
        simp only [if_true];refine Zc ?_;exact ⟨3,⟨Za,fun _=>h0,fun _=>k2 Za,fun _=>Zb⟩,Za,wk⟩
    ·have hk3:k=3:=Za
     subst hk3;have h0:=k1 Za;have hsq:=W6 h0
     have hr0:X7 x r=if ¬(0<=r.start/\r.start<=4096/\r.rests.length<=r.visits.length+1) then 2 else 0:=by
      rw [X7,if_neg (fun h=>h hty),if_neg Za,if_neg (k2 Za),if_neg (by grind)]
     have cb:=lY x r hx hl hrl hty h0;have hok:=Qw hx hty hsq
     have hbr:Qb x r=Xl x r->(Xl x r).2=0->(0<=r.start/\r.start<=4096/\r.rests.length<=r.visits.length+1)->(0<=(Xl x r).1.fin/\(Xl x r).1.fin<=8192)/\(0<=(Xl x r).1.miles/\(Xl x r).1.miles<=210000):=fun _ hz hs =>
      DC hok ⟨hs.1,hs.2.1⟩ (by grind [X0]) hz
     by_cases h6:0<=r.start/\r.start<=4096/\r.rests.length<=r.visits.length+1
     ·have e:X7 x r=0:=Za
      have ee:evalE x r=(Xl x r).2:=by rw [evalE,if_pos e]
      have eb:Qb x r=Xl x r:=by rw [Qb,if_pos h6]
      have hbr:=fun hz=>hbr eb hz h6;rw [eb] at cb
      have es:Xc x r=if (Xl x r).2=0 then (Xl x r).1 else zShe:=by rw [Xc,ee]
      have ep:X2 x r=if (Xl x r).2=0 then HR x r (Xl x r).1 else zSco:=by rw [X2,ee]
      unfold AL;rw [ee,es,ep];clear ee es ep eb
      generalize Xl x r=q at *
      obtain ⟨sh,eb⟩:=q;simp only at cb hbr ⊢;refine X4 cb (Zc ?_);refine cD ?_ ?_<;>intro h7<;>simp (disch:=omega) only [Sh.out h7,go_sem,seval,↓reduceIte]
      ·exact we (by simp (disch:=omega) only [zShe,zSco,Zm,go_sem,seval])
      ·have h7':eb=0:=Za
       try rw [if_pos h7',if_pos h7']
       subst h7';obtain ⟨g1,g2⟩:=hbr rfl;refine Z5 5 mixed Ze Ze (Zc ?_);refine Zq (dW x r sh hty Za htl hl hsq.inr hnum.2.2.2.1 Za Za Za) (Zc ?_);exact we
     ·have e:X7 x r=2:=Za
      have eb:Qb x r=(zShe,2):=by rw [Qb,if_neg h6]
      rw [Yl (e:=2) (by rw [evalE,e];rfl) Za];rw [eb] at cb;refine X4 cb (Zc ?_);exact we (by simp (disch:=omega) only [zShe,zSco,Zm,go_sem,seval])
theorem Wr {x:Inst} {r:Rte} (h:evalE x r=0):X7 x r=0:=by
 grind [evalE]
theorem WO {x:Inst} {r:Rte} (h:X7 x r=0):(0<=r.typ/\r.typ<(x.types.length:Int))/\Xk x r.visits=0/\(0<=r.start/\r.start<=4096/\r.rests.length<=r.visits.length+1):=by
 unfold X7 at h;omega
theorem IY {x:Inst} {r:Rte} (hx:InstOk x) (h:evalE x r=0):(0<=(Xc x r).fin/\(Xc x r).fin<=8192)/\(0<=(Xc x r).miles/\(Xc x r).miles<=210000):=by
 obtain ⟨hty,h0,hs⟩:=WO (Wr h)
 have e:Xc x r=(Xl x r).1:=by rw [Xc,if_pos h]
 have ee:(Xl x r).2=0:=by rw [evalE,if_pos (Wr h)] at h;exact h
 rw [e];exact DC (Qw hx hty (W6 h0)) ⟨hs.1,hs.2.1⟩ (by grind [X0]) ee
theorem J8 {P:Program} {e:TypeId} {k:Nat} {cs:List PV} {kk:IntKind} {n:Int} {x:PV} (h0:0<=n) (h1:n<k) (hx:apart P e cs n.toNat=some x) (ht:Yx P e=some 1):Il P (some (.array k e)) (.p (.agg cs)) (.p (.int kk n))=some (.p x):=by
 simp_all [Il]
def ZeV (s:Sco):PV:= .agg [.int .i64 s.cost,.int .i64 s.moved,.int .i64 s.other,.int .i64 s.work]
@[go_sem] theorem ZiA (s:Sco):ZeV s= .agg [.int .i64 s.cost,.int .i64 s.moved,.int .i64 s.other,.int .i64 s.work]:=Zk rfl rfl
theorem dY (s:Sco):PC 198 [.p (Hi s)] (ZeV s):=by
 refine Zg [] Tryz.func198 rfl wT ?_;simp (disch:=omega) only [Tryz.f198,go_sem,seval];exact we
def YQ (a b:Sco):Sco:=⟨a.cost+b.cost,a.moved+b.moved,a.other+b.other,a.work+b.work⟩
def CP (B:Int) (s:Sco):Prop:=(-B<=s.cost/\s.cost<=B)/\(-B<=s.moved/\s.moved<=B)/\(-B<=s.other/\s.other<=B)/\(-B<=s.work/\s.work<=B)
def iL (s:Sco):AM.Obj:= .cells [.p (.int .i64 s.cost),.p (.int .i64 s.moved),.p (.int .i64 s.other),.p (.int .i64 s.work)]
def XV (s:Sco):Int×Int:=if s.cost<0\/s.moved<0\/s.other<0\/s.work<0 then (0,2) else if 1073741824<s.cost\/16<=s.moved\/16<=s.other\/65536<=s.work then (0,4) else (((s.cost*16+s.moved)*16+s.other)*65536+s.work,0)
theorem Gm (s:Sco) (hs:CP 1152921504606846976 s):PT 152 [.p (Hi s)] [.p (.int .i64 (XV s).1),.p (.int .i64 (XV s).2)]:=by
 obtain ⟨a1,a2,a3,a4⟩:=hs;refine Zg [] Tryz.func152 rfl vR ?_;simp (disch:=omega) only [Tryz.f152,go_sem,seval];refine (dY s).use (Zc ?_);refine Zl [1,9] (fun k:Nat=> [(10,.p (.int .i64 k))]) (fun _=> [iL s,iL s]) (fun k=>k<=4/\(0<k->0<=s.cost)/\(1<k->0<=s.moved)/\(2<k->0<=s.other)/\(3<k->0<=s.work)) (fun k=>4-k) 0 ⟨Za,Za,Za,Za,Za⟩ (Weak.mk ?_) ?_
 ·simp (disch:=omega) only [iL,go_sem,seval]
 ·rintro k ⟨hk,k1,k2,k3,k4⟩;simp (disch:=omega) only [iL,go_sem,seval];refine cD ?_ ?_<;>intro h1<;>simp (disch:=omega) only [Sh.out h1,go_sem,seval,↓reduceIte]
  ·have:k=0\/k=1\/k=2\/k=3:=Za
   rcases this with rfl | rfl | rfl | rfl
   ·rw [J8 (x:= .int .i64 s.cost) Za Za (by rfl) Ze];refine Zc ?_;refine ZD ?_ ?_<;>intro h2
    ·have e:XV s=(0,2):=by simp_all [XV]
     rw [e];exact we
    ·exact ⟨1,⟨Za,fun _=>Za,Za,Za,Za⟩,Za,wk⟩
   ·rw [J8 (x:= .int .i64 s.moved) Za Za (by rfl) Ze];refine Zc ?_;refine ZD ?_ ?_<;>intro h2
    ·have e:XV s=(0,2):=by simp_all [XV]
     rw [e];exact we
    ·exact ⟨2,⟨Za,fun _=>k1 Za,fun _=>Za,Za,Za⟩,Za,wk⟩
   ·rw [J8 (x:= .int .i64 s.other) Za Za (by rfl) Ze];refine Zc ?_;refine ZD ?_ ?_<;>intro h2
    ·have e:XV s=(0,2):=by simp_all [XV]
     rw [e];exact we
    ·exact ⟨3,⟨Za,fun _=>k1 Za,fun _=>k2 Za,fun _=>Za,Za⟩,Za,wk⟩
   ·rw [J8 (x:= .int .i64 s.work) Za Za (by rfl) Ze];refine Zc ?_;refine ZD ?_ ?_<;>intro h2
    ·have e:XV s=(0,2):=by simp_all [XV]
     rw [e];exact we
    ·exact ⟨4,⟨Za,fun _=>k1 Za,fun _=>k2 Za,fun _=>k3 Za,fun _=>Za⟩,Za,wk⟩
  ·have hk4:k=4:=Za
   subst hk4;have g1:=k1 Za;have g2:=k2 Za;have g3:=k3 Za;have g4:=k4 Za
   have n1: ¬(s.cost<0\/s.moved<0\/s.other<0\/s.work<0):=Za
   have bad:(1073741824<s.cost\/16<=s.moved\/16<=s.other\/65536<=s.work)->XV s=(0,4):=fun h=>by simp_all [XV]
   refine gF ?_ ?_<;>intro h2<;>simp (disch:=omega) only [Sh.out h2,go_sem,seval,↓reduceIte]
   ·rw [bad Za];exact we
   ·refine gF ?_ ?_<;>intro h3<;>simp (disch:=omega) only [Sh.out h3,go_sem,seval,↓reduceIte]
    ·rw [bad Za];exact we
    ·refine gF ?_ ?_<;>intro h4<;>simp (disch:=omega) only [Sh.out h4,go_sem,seval,↓reduceIte]
     ·rw [bad Za];exact we
     ·refine cD ?_ ?_<;>intro h5<;>simp (disch:=omega) only [Sh.out h5,go_sem,seval,↓reduceIte]
      ·rw [bad Za];exact we
      ·have e:XV s=(((s.cost*16+s.moved)*16+s.other)*65536+s.work,0):=by simp_all [XV,if_neg]
       rw [e];exact we
def Yk (x:Inst) (i:Int):Sco×Int :=
 if i<0\/(x.orders.length:Int)<=i then (zSco,2)
 else if (nth x.orders i.toNat).off=true then (zSco,9)
 else if (nth x.orders i.toNat).penalty= -1 then (zSco,23)
 else (⟨(nth x.orders i.toNat).penalty,if (nth x.orders i.toNat).now= -1 then 0 else 1,0,0⟩,0)
theorem LD (x:Inst) (i:Int) (ho:x.orders.length<=1048576):PT 151 [.p (ZF x),.p (.int .i64 i)] [.p (Hi (Yk x i).1),.p (.int .i64 (Yk x i).2)]:=by
 refine Zg [] Tryz.func151 rfl vQ ?_;simp (disch:=omega) only [Tryz.f151,go_sem,seval];refine gF ?_ ?_<;>intro h1<;>simp (disch:=omega) only [Sh.out h1,go_sem,seval,↓reduceIte]
 ·have e:Yk x i=(zSco,2):=by simp_all [Yk]
  rw [e];exact we (by simp (disch:=omega) only [zSco,go_sem,seval])
 ·refine cD ?_ ?_<;>intro h2<;>simp (disch:=omega) only [Sh.out h2,go_sem,seval,↓reduceIte]
  ·have e:Yk x i=(zSco,2):=by simp_all [Yk]
   rw [e];exact we (by simp (disch:=omega) only [zSco,go_sem,seval])
  ·have hi:i.toNat<x.orders.length:=Za
   have n1: ¬(i<0\/(x.orders.length:Int)<=i):=Za
   refine cD ?_ ?_<;>intro h3<;>simp (disch:=omega) only [Sh.out h3,go_sem,seval,↓reduceIte]
   ·have e:Yk x i=(zSco,9):=by simp_all [Yk]
    rw [e];exact we (by simp (disch:=omega) only [zSco,go_sem,seval])
   ·have h3': ¬(nth x.orders i.toNat).off=true:=by rw [h3];simp
    refine cD ?_ ?_<;>intro h4<;>simp (disch:=omega) only [Sh.out h4,go_sem,seval,↓reduceIte]
    ·have e:Yk x i=(zSco,23):=by simp_all [Yk]
     rw [e];exact we (by simp (disch:=omega) only [zSco,go_sem,seval])
    ·refine cD ?_ ?_<;>intro h5<;>simp (disch:=omega) only [Sh.out h5,go_sem,seval,↓reduceIte]
     ·have e:Yk x i=(⟨(nth x.orders i.toNat).penalty,1,0,0⟩,0):=by simp_all [Yk]
      rw [e];exact we
     ·have h5':(nth x.orders i.toNat).now= -1:=Za
      have e:Yk x i=(⟨(nth x.orders i.toNat).penalty,0,0,0⟩,0):=by simp_all [Yk]
      rw [e];exact we
theorem fX {x:Inst} (hx:InstOk x) (i:Int):CP 1073741824 (Yk x i).1:=by
 unfold Yk
 split
 ·simp [CP,zSco]
 ·split
  ·simp [CP,zSco]
  ·split
   ·simp [CP,zSco]
   ·have ha:=(hx.orders.2 i.toNat Za).arg;simp only [argOk,rng,Zy,Zp] at ha
    grind [CP]
theorem GA {a:Sco} {B C:Int} (h:B<=C) (ha:CP B a):CP C a:=by
 grind [CP]
theorem Rf {x:Inst} {r:Rte} (hx:InstOk x) (hl:r.visits.length<=1048576) (h:evalE x r=0):CP 1073741824 (X2 x r):=by
 have hg:=IY hx h;obtain ⟨hty,_,_⟩:=WO (Wr h);have hnum:=Qx hx (show r.typ.toNat<x.types.length by omega);have htyp:nth x.types r.typ.toNat=ZR x r:=rfl;rw [htyp] at hnum
 have e:(Xl x r).1=Xc x r:=by rw [Xc,if_pos h]
 have hch:=AB (x:=x) (l:=r.visits) (t:=r.typ) r.visits.length;rw [X2,if_pos h,e];unfold HR CP
 generalize Xc x r=s at *
 generalize ZR x r=t at *
 have p1:0<=t.perMile*s.miles/\t.perMile*s.miles<=100*210000:=⟨VL Za Za,Vm Za Za Za Za⟩
 have hW: -8192<=s.fin-t.opn/\s.fin-t.opn<=8192:=Za
 have p2: -819200<=t.perTick*(s.fin-t.opn)/\t.perTick*(s.fin-t.opn)<=819200:=by
  generalize s.fin-t.opn=w at hW;have a1:=B3 hW.2 (show 0<=t.perTick by omega);have a2:=B3 hW.1 (show 0<=t.perTick by omega);omega
 have p3: -128<=(s.fin-t.opn).tdiv 64/\(s.fin-t.opn).tdiv 64<=128:=by
  grind
 have p4:0<=(s.fin-t.opn).tdiv 64*(s.fin-t.opn).tdiv 64/\(s.fin-t.opn).tdiv 64*(s.fin-t.opn).tdiv 64<=16384:=by
  generalize (s.fin-t.opn).tdiv 64=q at p3;refine ⟨?_,?_⟩
  ·rcases Kv 0 q with h | h
   ·exact VL h h
   ·exact Int.mul_nonneg_of_nonpos_of_nonpos h h
  ·rcases Kv 0 q with h | h
   ·have:=Vm p3.2 p3.2 h Za;omega
   ·have h2:0<= -q:=Za
    have:=Vm (show-q<=128 by omega) (show-q<=128 by omega) h2 Za
    grind
 grind
def prcF (x:Inst) (r:Rte):Int×Int:=if evalE x r=0 then XV (X2 x r) else (0,evalE x r)
theorem gA (s:Sco):0<=(XV s).1/\(XV s).1<=36028797018963968:=by
 grind [XV]
theorem eO (x:Inst) (r:Rte):0<=(prcF x r).1/\(prcF x r).1<=36028797018963968:=by
 unfold prcF
 split
 ·exact gA _
 ·simp
theorem Sl (x:Inst) (r:Rte) (hx:InstOk x) (hb:Q7 r):PT 237 [.p (ZF x),.p (Z0 r)] [.p (.int .i64 (prcF x r).1),.p (.int .i64 (prcF x r).2)]:=by
 have ce:=MS x r hx hb.1 hb.2;refine Zg [] Tryz.func237 rfl xJ ?_;simp (disch:=omega) only [Tryz.f237,go_sem,seval];unfold AL at ce;refine Mh ce (Zc ?_);refine cD ?_ ?_<;>intro h1<;>simp (disch:=omega) only [Sh.out h1,go_sem,seval,↓reduceIte]
 ·rw [prcF,if_neg h1];exact we
 ·have h0:evalE x r=0:=Za
  rw [prcF,if_pos h0];refine WV (Gm (X2 x r) (GA Za (Rf hx hb.1 h0))) (Zc ?_);exact we
def Jl (a b:Col):Bool:=if a.price≠b.price then decide (a.price<b.price) else decide (Lj a.route.visits b.route.visits<0)
def Gk (x:Inst) (S:Nat) (l:List Vis):List Vis:=nextU x S l x.orders.length
def EQ (x:Inst) (S:Nat):Nat:=H4 x S x.orders.length
theorem GI {ok:List Vis->Bool} {col:List Vis->Col} {better:Col->Col->Bool} : ∀ {L:List (List Vis)} {b:Col×Bool},(∀l∈L,ok l=false)->L.foldl (VP ok col better) b=b
 | [],_,_=>rfl
 | l::L,b,h=>by
  rw [Vl,VP,if_neg (by rw [h l Zb];simp)];exact GI fun m hm=>h m (Wj _ hm)
theorem WM {x:Inst} {r:Rte} (h:evalE x r=0):RightV x r.visits:=by
 rw [<- Se]
 have h1:X7 x r=0:=by
  grind [evalE]
 unfold X7 at h1;omega
def Uc (rs:List Rte) (i:Nat):Int:=(rs.countP fun r=>hasO r.visits (i:Int):Nat)
def Y2 (us:List Int) (i:Nat):Int:=(us.countP fun u=>decide (u=(i:Int)):Nat)
def AE (rs:List Rte) (i:Nat):Int:=(rs.countP fun r=>decide (r.typ=(i:Int)):Nat)
theorem P6 {rs:List Rte} {k:Nat} (h:k<rs.length) (i:Nat):Uc (rs.take (k+1)) i=if hasO (nth rs k).visits (i:Int)=true then Uc (rs.take k) i+1 else Uc (rs.take k) i:=by
 grind [Uc,Xw,Zh]
theorem P8 {us:List Int} {k:Nat} (h:k<us.length) (i:Nat):Y2 (us.take (k+1)) i=if nth us k=(i:Int) then Y2 (us.take k) i+1 else Y2 (us.take k) i:=by
 grind [Y2,Xw,Zh]
theorem P7 {rs:List Rte} {k:Nat} (h:k<rs.length) (i:Nat):AE (rs.take (k+1)) i=if (nth rs k).typ=(i:Int) then AE (rs.take k) i+1 else AE (rs.take k) i:=by
 grind [AE,Xw,Zh]
theorem IN {rs:List Rte} {k:Nat} (i:Nat):0<=Uc (rs.take k) i/\Uc (rs.take k) i<=rs.length:=by
 grind [ZY,Uc]
theorem IP {us:List Int} {k:Nat} (i:Nat):0<=Y2 (us.take k) i/\Y2 (us.take k) i<=us.length:=by
 grind [ZY,Y2]
theorem TW {rs:List Rte} {k:Nat} (i:Nat):0<=AE (rs.take k) i/\AE (rs.take k) i<=rs.length:=by
 grind [ZY,AE]
def Cp (x:Inst) (us:List Int):Bool:=us.all fun u=>decide (0<=u)&&decide (u<(x.orders.length:Int))
def errR (x:Inst):List Rte->Int
 | []=>0
 | r::l=>if evalE x r=0 then errR x l else evalE x r
theorem Hk {x:Inst} : ∀ {l:List Rte} {k:Nat},k<l.length->(∀j,j<k->evalE x (nth l j)=0)-> ¬evalE x (nth l k)=0->errR x l=evalE x (nth l k)
 | r::l,0,_,_,h=>by rw [errR,if_neg (show ¬evalE x r=0 from h)];rfl
 | r::l,k+1,hk,h0,h=>by
  rw [errR,if_pos (show evalE x r=0 from h0 0 Za)];exact Hk (l:=l) (k:=k) (by grind) (fun j hj=>h0 (j+1) Za) h
theorem Hl {x:Inst} : ∀ {l:List Rte},(∀j,j<l.length->evalE x (nth l j)=0)->errR x l=0
 | [],_=>rfl
 | r::l,h=>by
  rw [errR,if_pos (show evalE x r=0 from h 0 Zb)];exact Hl fun j hj=>h (j+1) (by grind)
def Fi (p:Pln) (i:Nat):Int:=Uc p.routes i+Y2 p.unserved i
def Aq (x:Inst) (p:Pln):Bool:=(List.range x.orders.length).any fun i=>decide (1<Fi p i)
def K8 (x:Inst) (p:Pln):Bool:=(List.range x.types.length).any fun t=>decide ((nth x.types t).count<AE p.routes t)
def JX (x:Inst) (p:Pln):Bool:=(List.range x.orders.length).any fun i=>(nth x.orders i).off&&decide (0<Y2 p.unserved i)
def CB (x:Inst) (p:Pln):Bool:=(List.range x.orders.length).any fun i=> !(nth x.orders i).off&&(decide (Fi p i=0)||(decide (0<Y2 p.unserved i)&&decide ((nth x.orders i).penalty= -1)))
def chkP (x:Inst) (p:Pln):Int :=
 if ¬errR x p.routes=0 then errR x p.routes
 else if Cp x p.unserved=false then 2
 else if Aq x p=true then 6
 else if K8 x p=true then 22
 else if JX x p=true then 9
 else if CB x p=true then 23
 else 0
theorem TV {rs:List Rte} (i:Nat):0<=Uc rs i/\Uc rs i<=rs.length:=by
 have:=IN (rs:=rs) (k:=rs.length) i
 grind
theorem TX {us:List Int} (i:Nat):0<=Y2 us i/\Y2 us i<=us.length:=by
 have:=IP (us:=us) (k:=us.length) i
 grind
theorem Bj {x:Inst} (hx:InstOk x):x.orders.length<=10:=by have:=hx.orders.1;omega
theorem NQ {x:Inst} (hx:InstOk x):x.types.length<=6:=by have:=hx.types.1;simp only [rng,Zp] at this;omega
end Go.Proofs.YtiigdaohjanidaaGreatDoor.K
