/- Declarations that the closing texts need, part 13: joined by tools/slim.py. -/
import Derived.Test.YtmbelkfkhclnkaaGreatDoorZM12
set_option linter.unusedVariables false
set_option linter.unusedSimpArgs false
namespace Go.Proofs.YtmbelkfkhclnkaaGreatDoor.K
open Go Go.AM Go.Proofs
set_option maxRecDepth 60000
set_option maxHeartbeats 8000000
def Bh (x:Inst) (now:Int) (r:Row):Bool:=decide (r.tm.beg<=now)&&decide (now<r.tm.beg+(stopV x r.v).serv)
def E4 (x:Inst) (now:Int) (l:List Rte):Nat->Int
 | 0=>0
 | k+1=>E4 x now l k+(if U8 (ZP x (nth l k)) now=true then 1 else 0)
theorem C3 {x now l} : ∀k,0<=E4 x now l k/\E4 x now l k<=(k:Int)
 | 0=>by simp [E4]
 | k+1=>by have:=C3 (x:=x) (now:=now) (l:=l) k;rw [E4];split<;>omega
def aM (x:Inst) (p:Pln) (now:Int):V :=
 if now<0\/4096<now then .tup [.p (.list true []),.p (.int .i64 0),.p (.int .i64 2)]
 else if YG x p.routes=0 then .tup [.p (.list false (((YB x p.routes p.routes.length).filter (Bh x now)).map Xu)),.p (.int .i64 (E4 x now p.routes p.routes.length)),.p (.int .i64 0)]
 else .tup [.p (.list true []),.p (.int .i64 0),.p (.int .i64 (YG x p.routes))]
structure RowOk (x:Inst) (r:Row):Prop where
 inr:inB x r.v=true
 plc:0<=(stopV x r.v).place
 beg:0<=r.tm.beg/\r.tm.beg<=4096
 srv:0<=(stopV x r.v).serv/\(stopV x r.v).serv<=4096
theorem EW {x:Inst} {l:List Vis} {k:Nat} (h:k<l.length):nth (Xc x l) k=stopV x (nth l k):=by
 rw [Zh (by rw [ZI];exact h),Zh h];simp [Xc]
theorem I7 {x:Inst} {i:Nat} {r:Rte} {q:Nat} (hx:InstOk x) (h:ZD x r=0) (hq:q<r.visits.length):RowOk x (Wv x i r q):=by
 obtain ⟨hty,hsq,_⟩:=Ys (XK h);have hvis:=(XB hsq).vis (Zq hq);simp only [EX,Bool.and_eq_true,decide_eq_true_eq] at hvis;have hs:=(FR hx h).seg q (by rw [ZI];exact hq);have hT:=(Y9 hx hty (XB hsq)).stp _ (Zq (show q<(Xc x r.visits).length by rw [ZI];exact hq));rw [EW hq] at hT;exact ⟨hvis.1,hvis.2,by simp only [Wv];omega,by simp only [Wv];omega⟩
theorem bC {α:Type} {f:α->Bool} {l:List α} {a:α} :(l++ [a]).filter f=l.filter f++if f a=true then [a] else []:=by
 rw [List.filter_append];congr 1
 by_cases h:f a=true
 ·simp [h]
 ·simp [h]
def Vr (x:Inst) (now:Int) (l:List Rte) (k q:Nat):List Row:=(Qw x l k q).filter (Bh x now)
theorem GC {x now l k} :Vr x now l k (nth l k).visits.length=(YB x l (k+1)).filter (Bh x now):=by rw [Vr,GA]
theorem JA {x now l k} :Vr x now l k 0=(YB x l k).filter (Bh x now):=by rw [Vr,Ew]
theorem Ex {x now l k q} :Vr x now l k (q+1)=Vr x now l k q++if Bh x now (Wv x k (nth l k) q)=true then [Wv x k (nth l k) q] else []:=by rw [Vr,Ev,bC];rfl
theorem GD {x now l k q} :(Vr x now l k q).length<=(YB x l k).length+q:=by
 have:=List.length_filter_le (Bh x now) (Qw x l k q);rw [GB] at this;exact this
theorem ME (x:Inst) (p:Pln) (now:Int) (hx:InstOk x) (hr:p.routes.length<=1048576) (hb: ∀r∈p.routes,Hj r) :
  ACalls Tryz.prog 29 [.p (XQ x),.p (Eb p),.p (.int .i64 now)] [] fun y H'=>y=aM x p now/\H'= []:=by
 refine Ze [7,21] Tryz.func29 rfl bZ ?_;have ct:=Wn x p hx hr hb;have hn:=MG hx;simp (disch:=omega) only [Tryz.f29,go_sem,seval]
 by_cases hnow:now<0\/4096<now
 ·rw [aM,if_pos hnow];refine gF ?_ ?_<;>intro h1<;>simp (disch:=omega) only [Sh.out h1,go_sem,seval]
  ·exact we
  ·refine cD ?_ ?_<;>intro h2<;>simp (disch:=omega) only [Sh.out h2,go_sem,seval]
   ·exact we
   ·omega
 ·rw [aM,if_neg hnow];refine gF ?_ ?_<;>intro h1<;>simp (disch:=omega) only [Sh.out h1,go_sem,seval]
  ·omega
  ·refine cD ?_ ?_<;>intro h2<;>simp (disch:=omega) only [Sh.out h2,go_sem,seval]
   ·omega
   ·by_cases h0:YG x p.routes=0
    ·simp only [if_pos h0] at ct ⊢;have hz: ∀j,j<p.routes.length->ZD x (nth p.routes j)=0:=fun j hj=>Ag.1 h0 _ (Zq hj);refine ZZ ct ?_;simp (disch:=omega) only [go_sem,seval];refine Zp (Weak.nil 11 9 (by rfl) Zb) ?_;refine Zd [21] _ _ _ _ ?_;have hl:=XX (x:=x) (l:=p.routes) (k:=p.routes.length);simp (disch:=omega) only [List.set_cons_succ,List.set_cons_zero,List.cons_append,List.nil_append,List.length_cons,List.length_nil,hl,go_sem,seval];refine Zn [2,3,34,35] (fun k:Nat=> [(11,.sl 2 0 (Vr x now p.routes k 0).length (Vr x now p.routes k 0).length),(12,.p (.int .i64 (E4 x now p.routes k))),(36,.p (.int .i64 k))]) (fun k=> [Zk x,Xw p,.elems 9 ((Vr x now p.routes k 0).map Xu)]) (fun k=>k<=p.routes.length) (fun k=>p.routes.length-k) 0 Zb (Weak.mk ?_) ?_
     ·simp (disch:=omega) only [Zk,Xw,Vr,Qw,YB,Xo,List.range_zero,List.map_nil,List.flatten_nil,List.append_nil,List.filter_nil,List.length_nil,E4,go_sem,seval]
     ·intro k hk;simp (disch:=omega) only [Zk,Xw,go_sem,seval];refine cD ?_ ?_<;>intro h3<;>simp (disch:=omega) only [Sh.out h3,go_sem,seval]
      ·have hk2:k<p.routes.length:=Za
       have hat:=KJ (x:=x) (l:=p.routes) hk2;have hz0:=hz k hk2;have hml:(YB x p.routes k).length<=1048576*k:=AA fun i hi=>(hb _ (Zq Za)).1;have hvl:=(hb _ (Zq hk2)).1;have htl:=W4 hz0;have haw:=C3 (x:=x) (now:=now) (l:=p.routes) k;have hrl:=Z0 (x:=x) (i:=k) (r:=nth p.routes k) (k:=(nth p.routes k).visits.length);simp (disch:=omega) only [hat,WB,go_sem,seval];simp (disch:=omega) only [hrl,go_sem,seval];refine Zn [2,3,12,14,34,35,36,41,42] (fun q:Nat=> [(11,.sl 2 0 (Vr x now p.routes k q).length (Vr x now p.routes k q).length),(43,.p (.int .i64 q))]) (fun q=> [Zk x,Xw p,.elems 9 ((Vr x now p.routes k q).map Xu),QW (WB x k (nth p.routes k))]) (fun q=>q<=(nth p.routes k).visits.length) (fun q=>(nth p.routes k).visits.length-q) 0 Zb (Weak.mk ?_) ?_
       ·simp (disch:=omega) only [Zk,Xw,QW,WB,go_sem,seval]
       ·intro q hq;simp (disch:=omega) only [Zk,Xw,QW,WB,go_sem,seval];refine cD ?_ ?_<;>intro h4<;>simp (disch:=omega) only [Sh.out h4,go_sem,seval]
        ·have hq2:q<(nth p.routes k).visits.length:=Za
         have hro:=I7 (i:=k) hx hz0 hq2
         have hra:nth (Xo x k (nth p.routes k) (nth p.routes k).visits.length) q=Wv x k (nth p.routes k) q:=by rw [Zh (by rw [Z0];exact hq2)];simp [Xo]
         have hms:=Ex (x:=x) (now:=now) (l:=p.routes) (k:=k) (q:=q);have hsl:=GD (x:=x) (now:=now) (l:=p.routes) (k:=k) (q:=q)
         generalize Wv x k (nth p.routes k) q=w at *
         obtain ⟨w1,w2,w3,w4⟩:=hro;simp (disch:=omega) only [hrl,hra,go_sem,seval];refine ZZ (Kx x w.v Za w1 w2) ?_;simp (disch:=omega) only [go_sem,seval];have hsd:Bh x now w=(decide (w.tm.beg<=now)&&decide (now<w.tm.beg+(stopV x w.v).serv)):=rfl;refine gT ?_ ?_<;>intro h5<;>simp (disch:=omega) only [Sh.out h5,go_sem,seval]
         ·refine cD ?_ ?_<;>intro h6<;>simp (disch:=omega) only [Sh.out h6,go_sem,seval]
          ·rw [hsd,if_pos (by simp [h5,h6])] at hms;refine ⟨q+1,Za,Za,Weak.mk ?_⟩;simp (disch:=omega) only [Zk,Xw,QW,WB,hms,List.map_append,List.map_cons,List.map_nil,List.length_append,List.length_cons,List.length_nil,go_sem,seval]
          ·rw [hsd,if_neg (by simp [h6]),List.append_nil] at hms;exact ⟨q+1,Za,Za,Weak.mk (by simp (disch:=omega) only [Zk,Xw,QW,WB,hms,go_sem,seval])⟩
         ·rw [hsd,if_neg (by simp [h5]),List.append_nil] at hms;exact ⟨q+1,Za,Za,Weak.mk (by simp (disch:=omega) only [Zk,Xw,QW,WB,hms,go_sem,seval])⟩
        ·have hql:q=(nth p.routes k).visits.length:=Za
         subst hql;have hma:=GC (x:=x) (now:=now) (l:=p.routes) (k:=k);rw [<- JA] at hma;refine (Nv (WB x k (nth p.routes k)) now (by simp only [WB];omega) (by simp only [WB];omega) (fun i hi=> ?_)).use ?_
         ·simp only [WB,Z0] at hi ⊢;rw [Zh (by rw [Z0];exact hi)];simp [Xo,Wv]
         ·have hawe:U8 (WB x k (nth p.routes k)).she now=U8 (ZP x (nth p.routes k)) now:=rfl;rw [hawe];have hnx:E4 x now p.routes (k+1)=E4 x now p.routes k+(if U8 (ZP x (nth p.routes k)) now=true then 1 else 0):=rfl
          generalize U8 (ZP x (nth p.routes k)) now=a at *
          cases a
          ·simp (disch:=omega) only [go_sem,seval];rw [if_neg Zb] at hnx;exact ⟨k+1,Za,Za,Weak.mk (by simp (disch:=omega) only [Zk,Xw,hnx,<- hma,Int.add_zero,go_sem,seval])⟩
          ·simp (disch:=omega) only [go_sem,seval];rw [if_pos rfl] at hnx;exact ⟨k+1,Za,Za,Weak.mk (by simp (disch:=omega) only [Zk,Xw,hnx,<- hma,go_sem,seval])⟩
      ·have hkl:k=p.routes.length:=Za
       subst hkl;rw [JA];refine Zp (Weak.fz (o:=2) (by rfl)) ?_;refine Zd [] _ _ _ _ ?_;simp (disch:=omega) only [List.map_cons,List.map_nil,List.set_cons_succ,List.set_cons_zero,Zk,Xw,List.length_map,eq_self,go_sem,seval];rw [if_pos h0];exact we
    ·simp only [if_neg h0] at ct ⊢;refine ZZ ct ?_;simp (disch:=omega) only [go_sem,seval];refine cD ?_ ?_<;>intro h1<;>simp (disch:=omega) only [Sh.out h1,go_sem,seval]
     ·exact we
     ·omega
end Go.Proofs.YtmbelkfkhclnkaaGreatDoor.K
