/- Declarations that the closing texts need, part 25: joined by tools/slim.py. -/
import Derived.Test.YtiigdaohjanidaaGreatDoorZ24
set_option linter.unusedVariables false
set_option linter.unusedSimpArgs false
namespace Go.Proofs.YtiigdaohjanidaaGreatDoor.K
open Go Go.AM Go.Proofs
set_option maxRecDepth 60000
set_option maxHeartbeats 8000000
theorem Tt {x:Inst} {b:Rte} {S:Nat} (h:(UI x b S).2=true): ∃m,(m=b.visits\/m∈Qj (C1 x S) (Qq x S) b.visits)/\Qo x b S m=true/\(UI x b S).1=Wh x b S m:=by
 unfold UI La at h ⊢;rcases CN _ _ h with ⟨h1,_⟩ | ⟨m,h1,h2,h3⟩
 ·cases h1
 grind
theorem F7 {x:Inst} {b:Rte} {need wout:Nat} {c:Col} (h:c∈At x b need wout): ∃S m,0<S/\S<2^x.orders.length/\JK need wout S=true/\(m=b.visits\/m∈Qj (C1 x S) (Qq x S) b.visits)/\Qo x b S m=true/\c=Wh x b S m:=by
 have hp1:1<=2^x.orders.length:=Nat.one_le_two_pow;obtain ⟨S,h1,h2,h3⟩:=(Mg _).1 h
 grind [JY,Cy,Tt]
theorem PK {x:Inst} {bs:List Rte} {c:Col} : ∀k,k<=bs.length->c∈Fl x bs k-> ∃b need wout,b∈bs/\c∈At x b need wout
 | 0,_,h=>by simp [Fl] at h
 | k+1,hk,h=>by
  rw [Fl,Xd] at h;rcases h with h | h
  ·exact PK k Za h
  ·exact ⟨_,_,_,Zn Za,h⟩
theorem Ib {x:Inst} {bs:List Rte} {now:Int} {c:Col} : ∀k,c∈GG x bs now k-> ∃b need wout,(b∈bs\/ ∃j:Nat,j<k/\b=VY (j:Int) now)/\c∈At x b need wout
 | 0,h=>by
  obtain ⟨b,n,w,h1,h2⟩:=PK _ (ZM _) h
  grind
 | k+1,h=>by
  rw [GG,Xd] at h;rcases h with h | h
  ·obtain ⟨b,n,w,h1,h2⟩:=Ib k h;exact ⟨b,n,w,h1.imp id fun ⟨j,hj,e⟩=>⟨j,Za,e⟩,h2⟩
  grind
theorem N0 {x:Inst} {bs:List Rte} {now:Int} (hn:x.orders.length<=4) (h6:x.types.length<=6) (hb:bs.length<=8):(ID x bs now).length<=1000/\ ∀c∈ID x bs now,c.set<9223372036854775808:=by
 have hp2:2^x.orders.length<=2^4:=XZ Za hn;refine ⟨?_,fun c hc=> ?_⟩
 ·have h1:=DG (x:=x) (bs:=bs) (now:=now) x.types.length;have h2:(bs.length+x.types.length)*(2^x.orders.length-1)<=14*16:=Jr Za Za;unfold ID;omega
 ·obtain ⟨b,_,_,_,h⟩:=Ib _ hc;obtain ⟨S,m,_,h3,_,_,_,rfl⟩:=F7 h
  show ((S:Nat):Int)<_
  omega
def kK (R:Pln->Int->Int->Prop) (k:Int) (q:Pln) (n e:Int):Prop:=(k=0->R q n e)/\(k≠0->q=⟨true,[],true,[]⟩/\n=0/\e=k)
theorem SR (x:Inst) (p:Pln) (l:List Rte) (c:Bool) (now:Int) (hx:InstOk x) (ho:x.orders.length<=4) (hbl:x.before.length<=1048576) (hr:p.routes.length<=1048576) (hv: ∀r∈p.routes,r.visits.length<=1048576)
  (hb: ∀r∈l,ordR r.visits=(((ordS r.visits:Nat):Int),0)) (hbs:BsOk x l) (hn:0<=now/\now<=4096) :
  ACalls Tryz.prog 25 [.p (Zv x),.p (Wk p),.p (.list c (l.map Z0)),.p (.int .i64 now)] [] fun y H'=> ∃q n e,kK (kG (JT x p (ZY l)) (ID (JT x p (ZY l)) l now)) (Ys x p) q n e/\y= .tup [.p (Wk q),.p (.int .i64 n),.p (.int .i64 e)]/\H'= []:=by
 have h6:=FN hx;have hl8:=hbs.len;have cb:=FY x p l c ho Za hr hv Za fun r h=>⟨by have:=(hbs.bnd r h).1;omega,hb r h,hbs.ord r h⟩;have hol:(JT x p (ZY l)).orders.length=x.orders.length:=Wf;unfold lR at cb;refine Ze [] Tryz.func25 rfl Zhq ?_;simp (disch:=omega) only [Tryz.f25,go_sem,seval];refine (Zci now).use ?_;refine X8 ?_;simp (disch:=omega) only [hn,W8,go_sem,seval]
 by_cases h0:Ys x p=0
 ·rw [if_pos h0,h0] at cb;have hx2:=Nc (S:=ZY l) hx h0;have hb2:BsOk (JT x p (ZY l)) l:=⟨hbs.len,hbs.typ,hbs.bnd,hbs.ord⟩;obtain ⟨o1,o2⟩:=N0 (x:=JT x p (ZY l)) (bs:=l) (now:=now) Za h6 hl8;have ca:=T0 (JT x p (ZY l)) hx2 l c now hb2 hn hbl;have cc:=SD (JT x p (ZY l)) (ID (JT x p (ZY l)) l now) false hx2 Za (show x.types.length<=1048576 by omega) o2 Za;generalize JT x p (ZY l)=y at cb ca cc ⊢;generalize ID y l now=L at ca cc ⊢;refine Y0 cb (X8 ?_);refine Y0 ca (X8 ?_);refine Iy cc fun q n e hR=> ?_
  refine X8 ?_;exact ⟨.tup [.p (Wk q),.p (.int .i64 n),.p (.int .i64 e)],[],wk,q,n,e,⟨fun _=>hR,fun h=>absurd h0 h⟩,rfl,rfl⟩
 ·rw [if_neg h0] at cb;refine Y0 cb (X8 ?_);refine cD ?_ ?_<;>intro h2<;>simp (disch:=omega) only [Sh.out h2,go_sem,seval,↓reduceIte]
  ·exact ⟨.tup [.p (Wk ⟨true,[],true,[]⟩),.p (.int .i64 0),.p (.int .i64 (Ys x p))],[],wk,⟨true,[],true,[]⟩,0,Ys x p,⟨fun h=>absurd h h0,fun _=>⟨rfl,rfl,rfl⟩⟩,rfl,rfl⟩
  ·omega
theorem Mc (x:Inst) (p:Pln) (l:List Rte) (c:Bool) (now:Int) (hx:InstOk x) (ho:x.orders.length<=4) (hr:p.routes.length<=1048576) (hv: ∀r∈p.routes,r.visits.length<=1048576)
  (hb: ∀r∈l,ordR r.visits=(((ordS r.visits:Nat):Int),0)) (hbs:BsOk x l) (hbn: ∀r∈l,r.visits.length<=900000/\r.rests.length<=900000) (hn:0<=now/\now<=4096) :
  ACalls Tryz.prog 26 [.p (Zv x),.p (Wk p),.p (.list c (l.map Z0)),.p (.int .i64 now)] [] fun y H'=> ∃q n e,kK (kH (JT x p (ZY l)) (ID (JT x p (ZY l)) l now)) (Ys x p) q n e/\y= .tup [.p (Wk q),.p (.int .i64 n),.p (.int .i64 e)]/\H'= []:=by
 have h6:=FN hx;have hl8:=hbs.len;have cb:=FZ x p l c ho Za hr hv Za fun r h=>⟨by grind,hb r h,hbs.ord r h⟩;have hol:(JT x p (ZY l)).orders.length=x.orders.length:=Wf;unfold lR at cb;refine Ze [] Tryz.func26 rfl Zhr ?_
 have hz: ¬now<0:=Za
 have hz2: ¬now>4096:=Za
 simp (disch:=omega) only [Tryz.f26,hz,hz2,UQ,go_sem,seval]
 by_cases h0:Ys x p=0
 ·rw [if_pos h0,h0] at cb;have hx2:=Nc (S:=ZY l) hx h0;have hb2:BsOk (JT x p (ZY l)) l:=⟨hbs.len,hbs.typ,hbs.bnd,hbs.ord⟩;obtain ⟨o1,o2⟩:=N0 (x:=JT x p (ZY l)) (bs:=l) (now:=now) Za h6 hl8;obtain ⟨hsk,hus⟩:=iU hx2;have ca:=T1 (JT x p (ZY l)) hx2 l c now hb2 hbn hn;have cc:=Ld (JT x p (ZY l)) (ID (JT x p (ZY l)) l now) false Za h6 Za o2 hsk hus;generalize JT x p (ZY l)=y at cb ca cc ⊢;generalize ID y l now=L at ca cc ⊢;refine Y0 cb (X8 ?_);refine Y0 ca (X8 ?_);refine Iy cc fun q n e hR=> ?_
  refine X8 ?_;exact ⟨.tup [.p (Wk q),.p (.int .i64 n),.p (.int .i64 e)],[],wk,q,n,e,⟨fun _=>hR,fun h=>absurd h0 h⟩,rfl,rfl⟩
 ·rw [if_neg h0] at cb;refine Y0 cb (X8 ?_);refine cD ?_ ?_<;>intro h2<;>simp (disch:=omega) only [Sh.out h2,go_sem,seval,↓reduceIte]
  ·exact ⟨.tup [.p (Wk ⟨true,[],true,[]⟩),.p (.int .i64 0),.p (.int .i64 (Ys x p))],[],wk,⟨true,[],true,[]⟩,0,Ys x p,⟨fun h=>absurd h h0,fun _=>⟨rfl,rfl,rfl⟩⟩,rfl,rfl⟩
  ·omega
theorem vL {x:Inst} {p:Pln} {S:Nat} (h:x.wf 1048576) (h0:Ys x p=0):(JT x p S).wf 1048576:=by
 obtain ⟨h1,h2,h3,h4,h5,h6,h7,h8,h9⟩:=h;refine ⟨h1,h2,h3,by show (WH _ _).length<=_;rw [Wf];exact h4,fun o ho=> ?_,h6,h7,h8,h9⟩;obtain ⟨j,hj,rfl⟩:=Z4.1 ho
 have hj2:j<x.orders.length:=by grind [JT,WH]
 have e:(JT x p S).orders[j]=vM x p S j:=by rw [<- Zj hj];exact Km hj2
 rw [e];obtain ⟨v,e2,hv⟩:=Nf (x:=x) (p:=p) (S:=S) (j:=j);rw [e2];obtain ⟨a1,a2,a3,a4,a5,a6,a7,a8,a9,a10⟩:=h5 _ (Zn hj2);have hk:=LL h0 hj2;refine ⟨a1,a2,a3,a4,a5,a6,?_,a8,a9,?_⟩
 ·rcases hv with rfl | rfl
  ·exact a7
  grind
 grind
theorem wJ {c:Cas} {l:List Rte} (h:DayOk48 c l) (hr: ∀r∈l,AK r):BsOk c.y l/\(∀r∈l,ordR r.visits=(((ordS r.visits:Nat):Int),0))/\ ∀r∈l,r.visits.length<=8/\r.rests.length<=9:=by
 obtain ⟨p1,p2,p3⟩:=Ip h.sm;have hx:=h.x.2.2.2.2.2.2
 have hy1:c.y.orders.length<=3:=by have:=h.y.1;omega
 have key: ∀b∈l,(0<=b.typ)/\b.visits.length<=8/\b.rests.length<=9:=fun b hb=>by
  rw [h.eq] at hb;obtain ⟨r,hrm,rfl,_⟩:=EK _ (ZM _) hb;have h0:=Lp.1 h.err r hrm;have hp:=p3 r hrm;have hs:=(Eg hx h0 Za).len;have h2:=L8 (x:=c.x) (now:=c.now) hs
  have hre:X9 c.x r=0:=by
   grind [Xb]
  exact ⟨(Ud hre).1.1,Za,Za⟩
 have hor: ∀r∈l,r.visits.all CX=true:=fun r hrm=>by
  have g1:=(h.beg r hrm).ord
  grind [ordR]
 refine ⟨⟨?_,fun r hrm=>⟨(key r hrm).1,(h.beg r hrm).typ⟩,fun r hrm=> ?_,fun r hrm v hv=> ?_⟩,fun r hrm=>by rw [ordR,if_pos (hor r hrm)],fun r hrm=>(key r hrm).2⟩
 ·have:=BF (x:=c.x) (now:=c.now) (l:=c.p.routes) c.p.routes.length;rw [h.eq];omega
 ·grind
 ·have h1:=Zw.1 (hor r hrm) v hv;simp only [CX,Zr] at h1;have h2:=((h.beg r hrm).sub v.order.toNat ((WE _ _).2 ⟨v,hv,rfl⟩)).1;omega
theorem oZ {x:Inst} {bs:List Rte} {now:Int} (hn:x.orders.length<=4) (hb: ∀r∈bs,r.visits.length<=8/\r.rests.length<=9) {c:Col} (hc:c∈ID x bs now):AK c.route:=by
 obtain ⟨b,_,_,hbm,h⟩:=Ib _ hc;obtain ⟨S,m,_,_,_,hm,_,rfl⟩:=F7 h
 have hb2:b.visits.length<=8/\b.rests.length<=9:=by
  rcases hbm with h | ⟨j,_,rfl⟩
  ·exact hb _ h
  ·simp [VY]
 have h1:(YG x S b.visits).length<=Qq x S:=Oh;have h2:=JE x S x.orders.length;unfold Qq at h1
 show m.length<=1048576/\b.rests.length<=1048576
 rcases hm with rfl | hm
 ·omega
 ·have:=Eu _ _ _ hm;omega
theorem dH (x:Inst) (hw:x.wf 1048576):PC 24 [.p (Zv x),.p (Zv x)] (.bool true):=by
 refine Zc Tryz.func24 rfl Zhp ?_;simp (disch:=omega) only [Tryz.f24,go_sem,seval];refine (iO x hw).use ?_;simp (disch:=omega) only [go_sem,seval]
theorem Fy (haw:PC 21 [] (.bool true)) (c:Cas) (hw:c.wf 1048576) :
  PC 6 [.p (bO c)] (.bool true):=by
 refine AV [] Tryz.func6 rfl ZmT ?_;simp (disch:=omega) only [Tryz.f6,go_sem,seval];refine Zcp (mQ c hw) fun b fl l hl hd=>X8 ?_
 cases b with
 | false =>
  refine C6 ?_;refine (haw).use ?_;simp (disch:=omega) only [go_sem,seval]
 | true =>
  refine Ks ?_;have hD:=hd rfl;have hy:=hD.y.2.2.2.2.2.2
  have hy1:c.y.orders.length<=3:=by have:=hD.y.1;omega
  have hnow:=hD.now;obtain ⟨p1,p2,p3⟩:=Ip hD.sm;obtain ⟨bs,hor,hln⟩:=wJ hD hl.2;have h6:=FN hy;have hbl:c.y.before.length<=1048576:=hw.2.2.2.2.2.2.2.2.2.2.1
  have hvs: ∀r∈c.p.routes,r.visits.length<=1048576:=fun r h=>by grind
  have hbb: ∀r∈l,r.visits.length<=1048576/\ordR r.visits=(((ordS r.visits:Nat):Int),0)/\ ∀v∈r.visits,0<=v.order/\v.order<62:=fun r h=>⟨by grind,hor r h,bs.ord r h⟩;have cb:=FY c.y c.p l fl Za Za Za hvs Za hbb;have cr:=FZ c.y c.p l fl Za Za Za hvs Za hbb
  have hwb:(if Ys c.y c.p=0 then JT c.y c.p (ZY l) else zeroI).wf 1048576:=by
   split
   ·rename_i h0;exact vL hw.2.2.2 h0
   ·exact Zkg
  have ci:=dH _ hwb;have cs:=SR c.y c.p l fl c.now hy Za hbl Za hvs hor bs hnow;have cs2:=Mc c.y c.p l fl c.now hy Za Za hvs hor bs (fun r h=>by grind) hnow
  have hsame: ∀p n e q m f,kK (kG (JT c.y c.p (ZY l)) (ID (JT c.y c.p (ZY l)) l c.now)) (Ys c.y c.p) p n e->kK (kH (JT c.y c.p (ZY l)) (ID (JT c.y c.p (ZY l)) l c.now)) (Ys c.y c.p) q m f ->
    n=m/\e=f/\p.routes=q.routes/\p.unserved=q.unserved/\p.routes.length<=24/\p.unserved.length<=24/\ ∀r∈p.routes,AK r:=fun p n e q m f hP hQ=>by
   by_cases h0:Ys c.y c.p=0
   ·have hol:(JT c.y c.p (ZY l)).orders.length=c.y.orders.length:=Wf;obtain ⟨e1,e2,r1,r2,r3,r4,r5⟩:=aW (Nc (S:=ZY l) hy h0) Za (N0 (x:=JT c.y c.p (ZY l)) (bs:=l) (now:=c.now) Za h6 bs.len).2 (hP.1 h0) (hQ.1 h0)
    exact ⟨e1,e2,r1,r2,r3,r4,fun r hr=>by
     obtain ⟨d,hdm,rfl⟩:=r5 r hr
     grind [oZ]⟩
   ·obtain ⟨rfl,rfl,rfl⟩:=hP.2 h0;obtain ⟨rfl,rfl,rfl⟩:=hQ.2 h0;simp
  unfold lR at cb cr;generalize (if Ys c.y c.p=0 then JT c.y c.p (ZY l) else zeroI)=Z at cb cr ci;refine Y0 cb (X8 ?_);refine Y0 cr ?_;simp (disch:=omega) only [not_true_eq_false,UQ,go_sem,seval];refine (ci).use (X8 ?_);refine Iy cs fun p n e hP=>X8 ?_;refine Iy cs2 fun q m f hQ=>X8 ?_;obtain ⟨rfl,rfl,r1,r2,r3,r4,hpr⟩:=hsame p n e q m f hP hQ;have hsm:GR p q=true:=GS (by rw [r1]) (fun k _=>by rw [r1];exact CH.2 ⟨rfl,rfl,rfl,rfl⟩) r2;simp (disch:=omega) only [eq_self,W8,go_sem,seval];refine (iN p q ⟨Za,Za,hpr⟩ ⟨by grind,by grind,by rw [<- r1];exact hpr⟩).use ?_
  refine X8 ?_;simp (disch:=omega) only [hsm,go_sem,seval];refine (haw).use (X8 ?_)
  grind
theorem Fx (c:Cas) (hw:c.wf 1048576) :
  PC 6 [.p (bO c)] (.bool true):=Fy Rt c hw
end Go.Proofs.YtiigdaohjanidaaGreatDoor.K
