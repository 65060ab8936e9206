/- Declarations that the closing texts need, part 19: joined by tools/slim.py. -/
import Derived.Test.YtiigdaohjanidaaGreatDoorH18
set_option linter.unusedVariables false
set_option linter.unusedSimpArgs false
namespace Go.Proofs.YtiigdaohjanidaaGreatDoor.K
open Go Go.AM Go.Proofs
structure RightV (x:Inst) (l:List Vis):Prop where
 ne:l≠ []
 inr:Inr x l
 off: ∀v∈l,(nth x.orders v.order.toNat).off=false
 nodup:l.Nodup
 pair: ∀v∈l,pairB x.orders l v=true
 apart: ∀p∈x.apart,¬(hasO l p.1=true/\hasO l p.2=true)
 before: ∀p∈x.before,beforeB l p.1 p.2=true
theorem SQ {x:Inst} {l:List Vis} :Xi x l=0↔RightV x l:=by
 unfold Xi;rw [W7 Za,W7 Za,W7 Za,W7 Za,W7 Za,W7 Za];simp only [and_true,VP,AT]
 have hin:l.any (VG x)=false↔Inr x l:=by
  rw [XS];exact ⟨fun h v hv=>by grind [VG],fun h v hv=>by simpa [VG] using h v hv⟩
 constructor
 ·rintro ⟨h1,h2,h3,h4,h5,h6⟩;rw [not_or,VP,hin] at h1;rw [XS] at h2 h5 h6;refine ⟨fun e=>h1.1 (by rw [e];rfl),h1.2,fun v hv=>by grind,h3,?_,fun p hp=>by grind,fun p hp=>by grind⟩
  grind
 ·intro h;refine ⟨?_,?_,h.nodup,?_,?_,?_⟩
  ·rw [not_or,VP,hin];exact ⟨fun e=>h.ne (Z7 e),h.inr⟩
  ·rw [XS];intro v hv;simp [h.off v hv]
  ·rw [Zy.2 h.pair];simp
  ·rw [XS];intro p hp;simpa using h.apart p hp
  ·rw [XS];intro p hp;simpa using h.before p hp
theorem SD {os:List Ord} {l:List Vis} {v:Vis} {i:Nat} (h:v.order=(i:Int)):pairB os l v=true↔v∈Z0 os i/\(∀w∈Z0 os i,w∈l)/\((⟨i,false⟩:Vis)∈Z0 os i->(⟨i,true⟩:Vis)∈Z0 os i->vIx l ⟨i,false⟩<vIx l ⟨i,true⟩):=by
 rw [pairB,h,X3,Zt,Zl,WG];refine and_congr Iff.rfl ?_
 have hm: ∀w:Vis,-1<vIx l w↔w∈l:=fun w=>by grind [WG]
 rcases JD os i with e | e | e | e<;>rw [e]
 ·simp [Qf]
 ·simp [Qf,hm]
 ·simp [Qf,hm]
 ·simp only [Qf,Jg,Zt,Zl,hm,Xs,Jd,or_false,forall_eq_or_imp,forall_eq]
  grind
section
variable {x : Inst} {l : List Vis}
theorem RightV.bit (h:RightV x l) (i:Nat):(XP l).testBit i=true↔ ∃v∈l,v.order=(i:Int):=by
 rw [BH];exact ⟨fun ⟨v,hv,e⟩=>⟨v,hv,by have:=h.inr v hv;omega⟩,fun ⟨v,hv,e⟩=>⟨v,hv,Za⟩⟩
theorem RightV.lt (h:RightV x l) (hf:IFacts x):XP l<9223372036854775808/\XP l / pw x.orders.length=0:=by
 have h1:XP l<9223372036854775808:=by
  have:=K6 l.length (l:=l) (Xg _) (fun v hv=>by
   rw [Yb] at hv;have:=h.inr v hv;have:=hf.len
   simp [Fz];omega)
  grind
 refine ⟨h1,Rx h1 fun j _ hj=> ?_⟩;obtain ⟨v,hv,e⟩:=(h.bit j).1 hj;have:=h.inr v hv;omega
theorem RightV.ord (h:RightV x l) (hf:IFacts x):Ju l=(((XP l:Nat):Int),0):=by
 rw [Ju,if_pos];rw [Zy];intro v hv;have:=h.inr v hv;have:=hf.len;simp [Fz];omega
theorem Gr.at {S:Nat} (h:Gr x S l): ∀k,k<l.length->nth l k∈nextU x S (l.take k) x.orders.length:=by
 induction h with
 | nil=>simp
 | snoc h hv ih =>
  rename_i l v;intro k hk;simp at hk;rcases Wy k l.length with h2 | h2
  ·grind [Ze]
  ·have:k=l.length:=Za
   simp_all [Ze]
theorem Gr.right {S:Nat} (h:Gr x S l) (hf:IFacts x) (ha:Alw x S) (h0:S≠0) (hS:S / pw x.orders.length=0) (hl:l.length=AS x S x.orders.length):RightV x l/\XP l=S:=by
 have hn:x.orders.length<=60:=by have:=hf.len;omega
 have hfull:=h.full hl
 have hsub: ∀v∈l,∃i:Nat,v.order=(i:Int)/\i<x.orders.length/\S.testBit i=true/\v∈Z0 x.orders i:=fun v hv=>by
  obtain ⟨i,i1,i2,i3⟩:=Va.1 (h.sub v hv);exact ⟨i,YM i3,i1,i2,i3⟩
 have hinr:Inr x l:=fun v hv=>by grind
 have hgo: ∀k,k<l.length-> ∃i:Nat,(nth l k).order=(i:Int)/\nth l k∈Z0 x.orders i/\nth l k ∉ l.take k/\((nth l k).drp=true->(⟨i,false⟩:Vis)∈Z0 x.orders i->(⟨i,false⟩:Vis)∈l.take k)/\ ∀p∈x.before,p.2=(i:Int)-> ∀w∈Z0 x.orders p.1.toNat,w∈l.take k:=fun k hk=>by
  obtain ⟨i,i1,i2,i3,i4,i5⟩:=UF.1 (h.at k hk);obtain ⟨r1,r2,r3⟩:=(UI i4).1 i5;exact ⟨i,YM i4,i4,r1,r2,r3⟩
 have hbit:XP l=S:=Bw fun i=>by
  rw [YY,BH]
  constructor
  ·grind
  ·intro hb;have hi:=Nc hS hb;obtain ⟨w,hw⟩:=List.exists_mem_of_ne_nil _ (hf.vne i hi);have:=YM hw;exact ⟨w,hfull w (Va.2 ⟨i,hi,hb,hw⟩),Za⟩
 refine ⟨⟨fun e=> ?_,hinr,fun v hv=> ?_,h.nodup,fun v hv=> ?_,fun p hp=> ?_,fun p hp=> ?_⟩,hbit⟩
 ·have:=PS hf.vne hS h0
  grind
 ·obtain ⟨i,i1,i2,i3,i4⟩:=hsub v hv;rw [i1,X3];exact ha.off i i2 i3
 ·obtain ⟨i,i1,i2,i3,i4⟩:=hsub v hv;refine (SD i1).2 ⟨i4,fun w hw=>hfull w (Va.2 ⟨i,i2,i3,hw⟩),fun hq1 hq2=> ?_⟩;have m2:=WG.2 (hfull _ (Va.2 ⟨i,i2,i3,hq2⟩));obtain ⟨g1,g2⟩:=PZ m2;obtain ⟨j,j1,j2,j3,j4,j5⟩:=hgo _ g1;rw [g2] at j1 j4
  have:j=i:=by grind
  subst this;obtain ⟨q,q1,q2,q3⟩:=QR (j4 rfl hq1);have:=(ZbQ q2).2
  grind
 ·have:=ha.apart;rw [apB,XS] at this;have h2:=this p hp;have hv:=hf.aval p hp;rw [<- hbit,Kf hinr hn _ Za,Kf hinr hn _ Za,Zt] at h2;exact h2
 ·rw [CW];intro hb;have hv:=hf.val p hp;obtain ⟨g1,g2,g3⟩:=Dx hb;obtain ⟨j,j1,j2,j3,j4,j5⟩:=hgo _ g1;have hall:=j5 p hp Za;refine ⟨?_,fun q hq e=> ?_⟩
  ·obtain ⟨w,hw⟩:=List.exists_mem_of_ne_nil _ (hf.vne p.1.toNat Za);exact ⟨w,Jm (hall w hw),by rw [YM hw];omega⟩
  ·obtain ⟨i,i1,i2,i3,i4⟩:=hsub _ (Zq hq)
   have:i=p.1.toNat:=Za
   subst this;obtain ⟨q2,r1,r2,r3⟩:=QR (hall _ i4);have e1:=AV h.nodup r2;have e2:=AV h.nodup hq
   grind
end
set_option maxRecDepth 8000
section
variable {σ : Type}
def Tz (nx:List Vis->List Vis):Nat->List Vis->List (List Vis)
 | 0,l=> [l]
 | f+1,l=>if nx l= [] then [l] else (nx l).flatMap fun v=>Tz nx f (l++ [v])
def lvW (nx:List Vis->List Vis) (go:σ->Vis->σ) (emp:σ->Bool):Nat->List Vis->σ->List (List Vis)
 | 0,l,_=> [l]
 | f+1,l,s=>(nx l).flatMap fun v=>if emp (go s v)=true then [] else lvW nx go emp f (l++ [v]) (go s v)
theorem Pj {nx:List Vis->List Vis} : ∀(f:Nat) (l m:List Vis),m∈Tz nx f l-> ∃r,m=l++r
 | 0,l,m,h=>by simp_all [Tz]
 | f+1,l,m,h=>by
  rw [Tz] at h
  split at h
  ·simp_all
  ·obtain ⟨v,_,h⟩:=We.1 h;obtain ⟨r,rfl⟩:=Pj f _ m h;simp
theorem VN {α β:Type} {p:β->Bool} {g:α->List β} : ∀l:List α,(l.flatMap g).filter p=l.flatMap fun a=>(g a).filter p
 | []=>rfl
 | a::l=>by rw [Jc,Jc,List.filter_append,VN l]
theorem Bg {α β:Type} {g h:α->List β} : ∀ {l:List α},(∀a∈l,g a=h a)->l.flatMap g=l.flatMap h
 | [],_=>rfl
 | a::l,e=>by rw [Jc,Jc,e a Zb,Bg fun b hb=>e b (Ym _ hb)]
theorem sD {nx:List Vis->List Vis} {go:σ->Vis->σ} {emp:σ->Bool} {ok:List Vis->Bool} {G:List Vis->Prop} {R:List Vis->σ->Prop} {tot:Nat}
  (hG: ∀l v,G l->v∈nx l->G (l++ [v])) (hR: ∀l s v,G l->R l s->v∈nx l->R (l++ [v]) (go s v)) (hE: ∀l s,G l->R l s->emp s=true-> ∀r,ok (l++r)=false)
  (hN: ∀l,G l->l.length<tot->nx l≠ []): ∀(f:Nat) (l:List Vis) (s:σ),G l->R l s->l.length+f=tot->(Tz nx f l).filter ok=(lvW nx go emp f l s).filter ok
 | 0,l,s,_,_,_=>rfl
 | f+1,l,s,hl,hs,ht=>by
  rw [Tz,lvW,if_neg (hN l hl Za),VN,VN];refine Bg fun v hv=> ?_;have h1:=hG l v hl hv;have h2:=hR l s v hl hs hv
  split
  ·rename_i he;rw [List.filter_nil,List.filter_eq_nil_iff];intro m hm;obtain ⟨r,rfl⟩:=Pj f _ m hm
   grind
  ·exact sD hG hR hE hN f _ _ h1 h2 (by simp;omega)
def Ub (ok:List Vis->Bool) (col:List Vis->Col) (better:Col->Col->Bool) (b:Col×Bool) (l:List Vis):Col×Bool:=if ok l=true/\(b.2=false\/better (col l) b.1=true) then (col l,true) else b
theorem Qa {ok:List Vis->Bool} {col:List Vis->Col} {better:Col->Col->Bool} : ∀(L:List (List Vis)) (b:Col×Bool),L.foldl (Ub ok col better) b=(L.filter ok).foldl (Ub ok col better) b
 | [],b=>rfl
 | l::L,b=>by
  rw [Yt,List.filter_cons]
  split
  ·rw [Yt];exact Qa L _
  ·rename_i h;rw [Ub,if_neg (fun g=>h g.1)];exact Qa L b
end
set_option maxRecDepth 60000
set_option maxHeartbeats 8000000
def Da (x:Inst) (n:Int):Prop:=x.orders.length<=n/\x.types.length<=2/\x.net.places.length<=6/\x.net.arcs.length<=40/\x.apart.length<=4/\x.before.length<=4/\InstOk x
theorem F8 (x:Inst) (hw:x.wf 1048576) (n:Int) (b:Bool) (hb:b=true↔Da x n):PC 34 [.p (ZF x),.p (.int .i64 n)] (.bool b):=by
 have w1:=hw.1.1;have w2:=hw.1.2.2.1;have w3:=hw.2.1;have w4:=hw.2.2.2.1;have w5:=hw.2.2.2.2.2.1;have w6:=hw.2.2.2.2.2.2.2.1
 suffices hh:ACalls Tryz.prog 34 [.p (ZF x),.p (.int .i64 n)] [] fun y H'=> ∃b:Bool,(b=true↔Da x n)/\y= .p (.bool b)/\H'= [] by
  grind
 refine ACalls.pureE (X6 Tryz.func34 rfl ZgK (Zg [] _ _ _ _ ?_));simp (disch:=omega) only [Tryz.f34,go_sem,seval];refine gT ?_ ?_<;>intro h1<;>simp (disch:=omega) only [Sh.out h1,go_sem,seval,↓reduceIte]
 ·refine gT ?_ ?_<;>intro h2<;>simp (disch:=omega) only [Sh.out h2,go_sem,seval,↓reduceIte]
  ·refine gT ?_ ?_<;>intro h3<;>simp (disch:=omega) only [Sh.out h3,go_sem,seval,↓reduceIte]
   ·refine gT ?_ ?_<;>intro h4<;>simp (disch:=omega) only [Sh.out h4,go_sem,seval,↓reduceIte]
    ·refine gT ?_ ?_<;>intro h5<;>simp (disch:=omega) only [Sh.out h5,go_sem,seval,↓reduceIte]
     ·refine gT ?_ ?_<;>intro h6<;>simp (disch:=omega) only [Sh.out h6,go_sem,seval,↓reduceIte]
      ·refine ((vG x hw).frozenE).useV fun m hm=> ?_;refine Wp ?_;refine ⟨decide (m.length=0),?_,Zb⟩;have:=hm.emp;rw [Zl,List.length_eq_zero_iff,this];exact ⟨fun h=>⟨Za,Za,Za,Za,Za,Za,h⟩,fun h=>h.2.2.2.2.2.2⟩
      ·exact ⟨false,by simp [Da];omega,rfl⟩
     ·exact ⟨false,by simp [Da];omega,rfl⟩
    ·exact ⟨false,by simp [Da];omega,rfl⟩
   ·exact ⟨false,by simp [Da];omega,rfl⟩
  ·exact ⟨false,by simp [Da];omega,rfl⟩
 ·exact ⟨false,by simp [Da];omega,rfl⟩
theorem P0 (x:Inst) (s:List UInt8) (ho:x.orders.length<=1048576):PC 79 [.p (ZF x),.p (.str s)] (.int .i64 (J1 x.orders s)):=by
 refine Zc Tryz.func79 rfl Zg1 ?_;simp (disch:=omega) only [Tryz.f79,go_sem,seval];refine Zk [1,8,9] (fun k:Nat=> [(10,.p (.int .i64 k))]) (fun _=> [Zj x]) (fun k=>k<=x.orders.length/\ ∀j,j<k->(nth x.orders j).name≠s) (fun k=>x.orders.length-k) 0 Zb (Weak.mk ?_) ?_
 ·simp (disch:=omega) only [Zj,go_sem,seval]
 ·rintro k ⟨hk,hno⟩;refine Wj ?_;refine cD ?_ ?_<;>intro h<;>simp (disch:=omega) only [Sh.out h,go_sem,seval,↓reduceIte]
  ·have hk2:k<x.orders.length:=Za
   refine ZP ?_ ?_<;>intro h2
   ·grind [mL]
   ·exact ⟨k+1,⟨Za,Zm.2 ⟨hno,h2⟩⟩,Za,wk⟩
  grind [mM]
theorem S8 (ds:List Inst) (c:Bool) (hl:ds.length<=1048576) (hw: ∀x∈ds,x.wf 1048576) :
  ACalls Tryz.prog 9 [.p (.list c (ds.map ZF))] [] fun y H'=> ∃b:Bool,(b=true->ds.length<=3/\ ∀x∈ds,Da x 2)/\y= .p (.bool b)/\H'= []:=by
 refine ACalls.pureE (X6 Tryz.func9 rfl ZlP (Zg [] _ _ _ _ ?_));simp (disch:=omega) only [Tryz.f9,go_sem,seval];refine cD ?_ ?_<;>intro h<;>simp (disch:=omega) only [Sh.out h,go_sem,seval]
 ·simp
 ·refine Zk [0] (fun k:Nat=> [(3,.p (.int .i64 k))]) (fun _=> []) (fun k=>k<=ds.length/\ ∀j,j<k->Da (nth ds j) 2) (fun k=>ds.length-k) 0 Zb (Weak.mk ?_) ?_
  ·simp (disch:=omega) only [go_sem,seval,↓reduceIte]
  ·rintro k ⟨hk,hno⟩;refine Wp ?_;refine cD ?_ ?_<;>intro h1<;>simp (disch:=omega) only [Sh.out h1,go_sem,seval,↓reduceIte]
   ·have hk2:k<ds.length:=Za
    have hwk:=hw _ (Zq hk2);have hw0:=hw _ (Zq (show 0<ds.length by omega));have w3:=hwk.2.1;have w4:=hw0.2.1
    by_cases hp:Da (nth ds k) 2
    ·have cf:=F8 (nth ds k) hwk 2 true (by simp [hp]);refine XH (Wp ?_);refine Zp (cf) (Wp ?_);refine cD ?_ ?_<;>intro h3<;>simp (disch:=omega) only [Sh.out h3,go_sem,seval,↓reduceIte]
     ·simp
     ·exact ⟨k+1,⟨Za,Zm.2 ⟨hno,hp⟩⟩,Za,wk⟩
    ·have cf:=F8 (nth ds k) hwk 2 false (by simp [hp]);refine XH (Wp ?_);refine Zp (cf) (Wp ?_);simp
   ·have hkl:k=ds.length:=Za
    subst hkl;refine ⟨true,fun _=>⟨Za,fun x hx=> ?_⟩,rfl⟩;obtain ⟨j,hj,rfl⟩:=ZN.1 hx
    grind [Ze]
def iN {α:Type} [Inhabited α] (l:List α) (j:Nat):List α:=(l.set j (nth l (j-1))).set (j-1) (nth l j)
theorem iO {α:Type} [Inhabited α] {l:List α} {j:Nat} :(iN l j).length=l.length:=by simp [iN]
theorem Tf {α:Type} [Inhabited α] {l:List α} {j:Nat} (h:j<l.length):(iN l j).Perm l:=by
 grind [iN,Ze,List.set_set_perm]
def dnF {α:Type} [Inhabited α] (lt:α->α->Bool):Nat->List α->List α
 | 0,m=>m
 | j+1,m=>if lt (nth m (j+1)) (nth m j)=true then dnF lt j (iN m (j+1)) else m
def iH {α:Type} [Inhabited α] (lt:α->α->Bool):Nat->List α->List α
 | 0,l=>l
 | i+1,l=>dnF lt i (iH lt i l)
theorem I0 {α:Type} [Inhabited α] {lt:α->α->Bool} : ∀(j:Nat) (m:List α),j<m.length->(dnF lt j m).Perm m
 | 0,_,_=> .refl _
 | j+1,m,h=>by
  rw [dnF]
  split
  ·exact (I0 j _ (by rw [iO];omega)).trans (Tf h)
  ·exact .refl _
theorem S9 {α:Type} [Inhabited α] {lt:α->α->Bool} {l:List α} : ∀i,i<=l.length->(iH lt i l).Perm l
 | 0,_=> .refl _
 | i+1,h=>by
  have ih:=S9 (lt:=lt) (l:=l) i Za;exact (I0 i _ (by rw [ih.length_eq];omega)).trans ih
theorem PM {α:Type} [Inhabited α] {lt:α->α->Bool} {l:List α} (hs: ∀a b,a<b->b<l.length->lt (nth l b) (nth l a)=false): ∀i,i<=l.length->iH lt i l=l
 | 0,_=>rfl
 | i+1,h=>by
  rw [iH,PM hs i Za]
  cases i with
  | zero=>rfl
  | succ i=>rw [dnF,if_neg (by grind)]
def HK (l:List Vis):Int:=match l with
 | []=> -1
 | v::m=>m.foldl (fun n w=>if w.order<n then w.order else n) v.order
def ZfR (a b:Rte):Bool:=decide (a.typ<b.typ)||(decide (a.typ=b.typ)&&decide (HK a.visits<HK b.visits))
def Qv (l:List Pt) (t:Int) (i:Nat):Bool:=decide ((nth l i).t<=t)&&decide (t<(nth l (i+1)).t)
def FK (p q:Pt) (t:Int):Int:=p.a+((t-p.t)*(q.a-p.a)+q.t-p.t-1) / (q.t-p.t)
def Q2 (l:List Pt) (t:Int):Int:=match (List.range (l.length-1)).find? (Qv l t) with
 | some i=>FK (nth l i) (nth l (i+1)) t
 | none=>if (nth l 0).t<t then t+(nth l (l.length-1)).a-(nth l (l.length-1)).t else t+(nth l 0).a-(nth l 0).t
theorem Hc {l:List Pt} {t:Int} {i:Nat} (hi:i+1<l.length) (hno: ∀j,j<i->Qv l t j=false) (h:Qv l t i=true):Q2 l t=FK (nth l i) (nth l (i+1)) t:=by
 have:(List.range (l.length-1)).find? (Qv l t)=some i:=by
  grind [List.find?_eq_some_iff_getElem]
 rw [Q2,this]
theorem Di {l:List Pt} {t:Int} (hno: ∀j,j+1<l.length->Qv l t j=false):Q2 l t=if (nth l 0).t<t then t+(nth l (l.length-1)).a-(nth l (l.length-1)).t else t+(nth l 0).a-(nth l 0).t:=by
 grind [Q2]
theorem E2 {p q:Pt} {t:Int} (h1:p.t<=t) (h2:t<q.t) (hp:0<=p.t) (hq:q.t<=4096) (ha:p.a<=q.a) (hpa:0<=p.a) (hqa:q.a<=8192):0<=(t-p.t)*(q.a-p.a)/\(t-p.t)*(q.a-p.a)<=33554432:=by
 refine ⟨VQ Za Za,?_⟩;have:(t-p.t)*(q.a-p.a)<=4096*8192:=Vq Za Za Za Za;omega
theorem Zho (l:List Pt) (c:Bool) (t:Int) (hl:WE l) (ht:0<=t/\t<=1073741824):PC 324 [.p (.list c (l.map F3)),.p (.int .i64 t)] (.int .i64 (Q2 l t)):=by
 obtain ⟨⟨hl1,hl2⟩,hpt⟩:=hl;refine Zc Tryz.func324 rfl ZaT ?_;simp (disch:=omega) only [Tryz.f324,go_sem,seval];refine ((aT l c Za).frozenE).useV fun m hm=>Wp ?_
 have hm0:m.length=0:=by rw [hm.emp.2 ⟨⟨hl1,hl2⟩,hpt⟩];rfl
 have e1: ¬t<0:=Za
 have e2: ¬ 1073741824<t:=Za
 simp (disch:=omega) only [hm0,e1,e2,go_sem,seval];refine Zk [0,1] (fun k:Nat=> [(5,.p (.int .i64 k))]) (fun _=> []) (fun k=>k<l.length/\ ∀j,j<k->Qv l t j=false) (fun k=>l.length-k) 0 (by simp;omega) (Weak.mk ?_) ?_
 ·simp (disch:=omega) only [go_sem,seval,↓reduceIte]
 ·rintro k ⟨hk,hno⟩;refine Wp ?_;refine cD ?_ ?_<;>intro h<;>simp (disch:=omega) only [Sh.out h,go_sem,seval,↓reduceIte]
  ·have hk2:k+1<l.length:=Za
   obtain ⟨⟨p1,p2,p3,p4⟩,_⟩:=hpt k hk;obtain ⟨⟨q1,q2,q3,q4⟩,q5⟩:=hpt (k+1) hk2;obtain ⟨r1,r2⟩:=q5 Za;rw [Nat.add_sub_cancel] at r1 r2;refine gT ?_ ?_<;>intro h2<;>simp (disch:=omega) only [Sh.out h2,go_sem,seval,↓reduceIte]
   ·refine cD ?_ ?_<;>intro h3<;>simp (disch:=omega) only [Sh.out h3,go_sem,seval,↓reduceIte]
    ·have hsg:Qv l t k=true:=by simp [Qv,h2,h3]
     rw [Hc hk2 hno hsg];obtain ⟨s1,s2⟩:=E2 h2 h3 p1 q2 r2 Za Za;have d1:0<=((t-(nth l k).t)*((nth l (k+1)).a-(nth l k).a)+(nth l (k+1)).t-(nth l k).t-1) / ((nth l (k+1)).t-(nth l k).t):=Int.ediv_nonneg Za Za;have d2:((t-(nth l k).t)*((nth l (k+1)).a-(nth l k).a)+(nth l (k+1)).t-(nth l k).t-1) / ((nth l (k+1)).t-(nth l k).t)<=33558528:=Int.le_trans (Int.ediv_le_self _ Za) Za
     have d3: ¬(nth l (k+1)).t-(nth l k).t=0:=Za
     simp only [FK];refine XH ?_;simp (disch:=omega) only [go_sem,seval,↓reduceIte]
    ·have hsg:Qv l t k=false:=by simp [Qv,h3]
     exact ⟨k+1,⟨Za,Zm.2 ⟨hno,hsg⟩⟩,Za,wk⟩
   ·have hsg:Qv l t k=false:=by simp [Qv,h2]
    exact ⟨k+1,⟨Za,Zm.2 ⟨hno,hsg⟩⟩,Za,wk⟩
  ·have hkl:k+1=l.length:=Za
   rw [Di (fun j hj=>hno j Za)];obtain ⟨⟨p1,p2,p3,p4⟩,_⟩:=hpt 0 Za;obtain ⟨⟨q1,q2,q3,q4⟩,_⟩:=hpt (l.length-1) Za
   have i1:((l.length:Int)-1).toNat=l.length-1:=Za
   refine cD ?_ ?_<;>intro h2<;>simp (disch:=omega) only [Sh.out h2,go_sem,seval,↓reduceIte]
theorem ZD {α:Type} [Inhabited α] {l:List α} {i:Nat} (h:i<l.length):nth l i∈l:=by grind [Ze]
def kC (a:Arc):Prop:=WE a.travel/\a.slow.length<=16/\ ∀p∈a.slow,0<=p.t/\p.t<=4096/\0<=p.a/\p.a<=4096
def JJ (l:List Pt) (t:Int) (k:Nat):Int:=(l.take k).foldl (fun s p=>if p.t<=t then s+p.a else s) 0
def Hb (a:Arc) (t:Int):Int:=Q2 a.travel t+JJ a.slow t a.slow.length
theorem AR {l:List Pt} {t:Int} {k:Nat} (h:k<l.length):JJ l t (k+1)=if (nth l k).t<=t then JJ l t k+(nth l k).a else JJ l t k:=by
 grind [JJ,Xm,Ze]
theorem QN {l:List Pt} {t:Int} (hl: ∀p∈l,0<=p.a/\p.a<=4096): ∀k,k<=l.length->0<=JJ l t k/\JJ l t k<=4096*k
 | 0,_=>by simp [JJ]
 | k+1,h=>by
  have ih:=QN (t:=t) hl k Za
  grind [ZD,AR]
theorem DV {l:List Pt} {t:Int} (hl:WE l) (ht:0<=t/\t<=1073741824):0<=Q2 l t/\Q2 l t<=1107304448:=by
 obtain ⟨⟨hl1,hl2⟩,hpt⟩:=hl;unfold Q2
 split
 ·rename_i i hi;have hm:=Uw hi;have hs:=Jr hi;simp at hm;simp only [Qv,Zt,Zl] at hs;obtain ⟨⟨p1,p2,p3,p4⟩,_⟩:=hpt i Za;obtain ⟨⟨q1,q2,q3,q4⟩,q5⟩:=hpt (i+1) Za;obtain ⟨r1,r2⟩:=q5 Za;rw [Nat.add_sub_cancel] at r1 r2;obtain ⟨s1,s2⟩:=E2 hs.1 hs.2 p1 q2 r2 Za Za;have d1:0<=((t-(nth l i).t)*((nth l (i+1)).a-(nth l i).a)+(nth l (i+1)).t-(nth l i).t-1) / ((nth l (i+1)).t-(nth l i).t):=Int.ediv_nonneg Za Za;have d2:((t-(nth l i).t)*((nth l (i+1)).a-(nth l i).a)+(nth l (i+1)).t-(nth l i).t-1) / ((nth l (i+1)).t-(nth l i).t)<=33558528:=Int.le_trans (Int.ediv_le_self _ Za) Za
  unfold FK;omega
 ·obtain ⟨⟨p1,p2,p3,p4⟩,_⟩:=hpt 0 Za;obtain ⟨⟨q1,q2,q3,q4⟩,_⟩:=hpt (l.length-1) Za;omega
theorem M3 (a:Arc) (t:Int) (ha:kC a) (ht:0<=t/\t<=1073741824):PC 320 [.p (V0 a),.p (.int .i64 t)] (.int .i64 (Hb a t)):=by
 obtain ⟨h1,h2,h3⟩:=ha;have hr:=DV h1 ht;have hs:=QN (t:=t) (fun p hp=>(h3 p hp).2.2);refine Zc Tryz.func320 rfl ZaP ?_;simp (disch:=omega) only [Tryz.f320,go_sem,seval];refine (Zho a.travel a.travel_c t h1 ht).use (Wp ?_);refine Zk [1,2] (fun k:Nat=> [(5,.p (.int .i64 (Q2 a.travel t+JJ a.slow t k))),(6,.p (.int .i64 k))]) (fun _=> [WI a]) (fun k=>k<=a.slow.length) (fun k=>a.slow.length-k) 0 Zb (Weak.mk ?_) ?_
 ·simp (disch:=omega) only [WI,JJ,Qr,go_sem,seval];simp
 ·intro k hk;have hsk:=hs k hk;simp (disch:=omega) only [WI,go_sem,seval];refine cD ?_ ?_<;>intro h<;>simp (disch:=omega) only [Sh.out h,go_sem,seval,↓reduceIte]
  ·have hk2:k<a.slow.length:=Za
   have hp:=h3 _ (ZD hk2);have hsn:=AR (t:=t) hk2;refine ZP ?_ ?_<;>intro h4
   ·rw [if_pos h4] at hsn;exact ⟨k+1,Za,Za,Weak.mk (by simp (disch:=omega) only [hsn,Int.add_assoc,go_sem,seval])⟩
   ·rw [if_neg h4] at hsn;exact ⟨k+1,Za,Za,Weak.mk (by simp (disch:=omega) only [hsn,go_sem,seval])⟩
  grind [Hb]
theorem PY {g:FuncId} {args:List V} {a b c:PV} {H:List AM.Obj} {K:V->List AM.Obj->Prop} (h:ACalls Tryz.prog g args [] fun x H'=>x= .tup [.p a,.p b,.p c]/\H'= []) (k:K (.tup [.p a,.p b,.p c]) H) (ha:Xd 0 args=true:=by rfl):ACalls Tryz.prog g args H K :=
 (h.behind ha H).mono fun x H' hq=>by
  obtain ⟨y,H1,⟨rfl,rfl⟩,rfl,rfl⟩:=hq
  grind [shV,shVs]
theorem X2 {g:FuncId} {args:List V} {a b:PV} {H:List AM.Obj} {K:V->List AM.Obj->Prop} (h:ACalls Tryz.prog g args [] fun x H'=>x= .tup [.p a,.p b]/\H'= []) (k:K (.tup [.p a,.p b]) H) (ha:Xd 0 args=true:=by rfl):ACalls Tryz.prog g args H K :=
 (h.behind ha H).mono fun x H' hq=>by
  obtain ⟨y,H1,⟨rfl,rfl⟩,rfl,rfl⟩:=hq
  grind [shV,shVs]
def Kg (n:Net) (p:Int):Bool:=decide (0<=p)&&decide (p<(n.places.length:Int))
theorem GA (n:Net) (p:Int) (hn:n.places.length<=1048576):PC 318 [.p (Ba n),.p (.int .i64 p)] (.bool (Kg n p)):=by
 refine Zc Tryz.func318 rfl ZaN ?_;simp (disch:=omega) only [Tryz.f318,go_sem,seval];refine gT ?_ ?_<;>intro h<;>simp (disch:=omega) only [Sh.out h,go_sem,seval,↓reduceIte]
 ·simp [Kg,h]
 ·simp [Kg,h]
def W1 (pr f t:Int) (a:Arc):Bool:=decide (a.src=f)&&decide (a.dst=t)&&decide (a.prof=pr)
def Vx : Arc:=⟨0,0,0,0,true,[],true,[]⟩
def Ws (n:Net) (pr f t:Int):Arc×Bool:=match n.arcs.find? (W1 pr f t) with | some a=>(a,true) | none=>(Vx,false)
theorem I8 {n:Net} {pr f t:Int} {k:Nat} (hk:k<n.arcs.length) (hno: ∀j,j<k->W1 pr f t (nth n.arcs j)=false) (h:W1 pr f t (nth n.arcs k)=true):Ws n pr f t=(nth n.arcs k,true):=by
 have:n.arcs.find? (W1 pr f t)=some (nth n.arcs k):=by
  grind [List.find?_eq_some_iff_getElem,Ze]
 rw [Ws,this]
theorem I9 {n:Net} {pr f t:Int} (hno: ∀j,j<n.arcs.length->W1 pr f t (nth n.arcs j)=false):Ws n pr f t=(Vx,false):=by
 have:n.arcs.find? (W1 pr f t)=none:=by
  rw [KQ];intro a ha;obtain ⟨j,hj,rfl⟩:=ZN.1 ha
  grind [Ze]
 rw [Ws,this]
theorem cA (n:Net) (pr f t:Int) (hn:n.arcs.length<=1048576):PT 319 [.p (Ba n),.p (.int .i64 pr),.p (.int .i64 f),.p (.int .i64 t)] [.p (V0 (Ws n pr f t).1),.p (.bool (Ws n pr f t).2)]:=by
 refine Zf [] Tryz.func319 rfl ZaO ?_;simp (disch:=omega) only [Tryz.f319,go_sem,seval];refine Zk [1,2,3,4,8] (fun k:Nat=> [(10,.p (.int .i64 k))]) (fun _=>Z1 n++ [WI Vx]) (fun k=>k<=n.arcs.length/\ ∀j,j<k->W1 pr f t (nth n.arcs j)=false) (fun k=>n.arcs.length-k) 0 Zb (Weak.mk ?_) ?_
 ·simp (disch:=omega) only [Z1,WI,Vx,Zo,ZY,Xh,go_sem,seval]
 ·rintro k ⟨hk,hno⟩;simp (disch:=omega) only [Z1,WI,Vx,Zo,ZY,Xh,go_sem,seval];refine cD ?_ ?_<;>intro h<;>simp (disch:=omega) only [Sh.out h,go_sem,seval,↓reduceIte]
  ·have hk2:k<n.arcs.length:=Za
   have nx:W1 pr f t (nth n.arcs k)=false-> ∀j,j<k+1->W1 pr f t (nth n.arcs j)=false:=fun h=>Zm.2 ⟨hno,h⟩;refine QB ?_ ?_<;>intro h1
   ·refine QB ?_ ?_<;>intro h2
    ·refine ZP ?_ ?_<;>intro h3
     ·have e:=I8 hk2 hno (by grind [W1]);rw [e];exact we
     ·exact ⟨k+1,⟨Za,nx (by simp [W1,h3])⟩,Za,wk⟩
    ·exact ⟨k+1,⟨Za,nx (by simp [W1,h2])⟩,Za,wk⟩
   ·exact ⟨k+1,⟨Za,nx (by simp [W1,h1])⟩,Za,wk⟩
  ·have hkn:k=n.arcs.length:=Za
   subst hkn;rw [I9 hno];exact we (by simp (disch:=omega) only [Vx,Zo,go_sem,seval])
def WB (n:Net) (pr f t τ:Int):Int×Int×Int :=
 if (Kg n f&&Kg n t)=false then (0,0,11) else if f=t then (τ,0,0) else if (Ws n pr f t).2=true then (Hb (Ws n pr f t).1 τ,(Ws n pr f t).1.miles,0) else (0,0,12)
def netR (n:Net):Prop:=n.places.length<=1048576/\n.arcs.length<=1048576/\ ∀a∈n.arcs,kC a
theorem KI {n:Net} {pr f t:Int} (h:(Ws n pr f t).2=true):(Ws n pr f t).1∈n.arcs:=by
 grind [Ws]
theorem vW (n:Net) (pr f t τ:Int) (hn:netR n) (hτ:0<=τ/\τ<=1073741824):PT 307 [.p (Ba n),.p (.int .i64 pr),.p (.int .i64 f),.p (.int .i64 t),.p (.int .i64 τ)] [.p (.int .i64 (WB n pr f t τ).1),.p (.int .i64 (WB n pr f t τ).2.1),.p (.int .i64 (WB n pr f t τ).2.2)]:=by
 refine Zf [] Tryz.func307 rfl ZaC ?_;simp (disch:=omega) only [Tryz.f307,go_sem,seval];refine (GA n f hn.1).use (Wp ?_);refine gF ?_ ?_<;>intro h1<;>simp (disch:=omega) only [Sh.out h1,go_sem,seval,↓reduceIte]
 ·have e:WB n pr f t τ=(0,0,11):=by grind [WB]
  rw [e];exact we
 ·simp only [Xn] at h1;refine (GA n t hn.1).use (Wp ?_);refine cD ?_ ?_<;>intro h2<;>simp (disch:=omega) only [Sh.out h2,go_sem,seval]
  ·have e:WB n pr f t τ=(0,0,11):=by grind [WB]
   rw [e];exact we
  ·simp only [Xn] at h2;refine cD ?_ ?_<;>intro h3<;>simp (disch:=omega) only [Sh.out h3,go_sem,seval,↓reduceIte]
   ·have e:WB n pr f t τ=(τ,0,0):=by grind [WB]
    rw [e];exact we
   ·have cf:=cA n pr f t hn.2.1;have hm:= @KI n pr f t
    have e0:WB n pr f t τ=if (Ws n pr f t).2=true then (Hb (Ws n pr f t).1 τ,(Ws n pr f t).1.miles,0) else (0,0,12):=by grind [WB]
    rw [e0];generalize Ws n pr f t=A at cf hm ⊢;obtain ⟨a,b⟩:=A;simp only at cf hm ⊢;refine X2 cf (Wp ?_);refine cD ?_ ?_<;>intro h4<;>simp (disch:=omega) only [Sh.out h4,go_sem,seval]
    ·have hb:b=false:=by grind
     subst hb;exact we (by simp (disch:=omega) only [go_sem,seval,↓reduceIte])
    ·have hb:b=true:=by grind
     subst hb;refine XH (Wp ?_);refine Zp (M3 a τ (hn.2.2 a (hm rfl)) hτ) (Wp ?_);exact we
theorem pH (x:Inst) (pr f t τ:Int) (hn:netR x.net) (hτ:0<=τ/\τ<=1073741824):PT 284 [.p (ZF x),.p (.int .i64 pr),.p (.int .i64 f),.p (.int .i64 t),.p (.int .i64 τ)] [.p (.int .i64 (WB x.net pr f t τ).1),.p (.int .i64 (WB x.net pr f t τ).2.1),.p (.bool (decide ((WB x.net pr f t τ).2.2=0)))]:=by
 refine Zf [] Tryz.func284 rfl Zah ?_;simp (disch:=omega) only [Tryz.f284,go_sem,seval];refine PY (vW x.net pr f t τ hn hτ) (Wp ?_);exact we
structure StD where
 place:Int
 time:Int
 driven:Int
 miles:Int
def bT (s:StD):PV:= .agg [.int .i64 s.place,.int .i64 s.time,.int .i64 s.driven,.int .i64 s.miles]
@[go_sem] theorem Zjw (s:StD):bT s= .agg [.int .i64 s.place,.int .i64 s.time,.int .i64 s.driven,.int .i64 s.miles]:=Zh rfl rfl
def ER (t:Typ) (s:StD) (b:Bool):StD:=if b=true then { s with time:=s.time+t.rest,driven:=0 } else s
theorem LY (t:Typ) (s:StD) (b:Bool) (hb: -1099511627776<=s.time/\s.time<=1099511627776/\ -1099511627776<=t.rest/\t.rest<=1099511627776):PC 249 [.p (V1 t),.p (bT s),.p (.bool b)] (bT (ER t s b)):=by
 refine Zc Tryz.func249 rfl zH ?_
 cases b with
 | true=>simp (disch:=omega) only [Tryz.f249,ER,go_sem,seval,↓reduceIte]
 | false=>simp (disch:=omega) only [Tryz.f249,ER,Yn,go_sem,seval,↓reduceIte]
def QO (x:Inst) (t:Typ) (s:StD) (to cl late:Int):StD×Int :=
 if ¬(WB x.net t.prof s.place to s.time).2.2=0 then (s,12)
 else if cl<(WB x.net t.prof s.place to s.time).1 then (s,late)
 else if t.drive<s.driven+(WB x.net t.prof s.place to s.time).1-s.time then (s,16)
 else (⟨to,(WB x.net t.prof s.place to s.time).1,s.driven+(WB x.net t.prof s.place to s.time).1-s.time,s.miles+(WB x.net t.prof s.place to s.time).2.1⟩,0)
def TH (n:Int):Prop:= -1099511627776<=n/\n<=1099511627776
theorem Mq (x:Inst) (t:Typ) (s:StD) (to cl late:Int) (hn:netR x.net) (hs:0<=s.time/\s.time<=1073741824) (hd:TH s.driven) (hm:TH s.miles) (hg:TH (WB x.net t.prof s.place to s.time).1/\TH (WB x.net t.prof s.place to s.time).2.1) :
  PT 250 [.p (ZF x),.p (V1 t),.p (bT s),.p (.int .i64 to),.p (.int .i64 cl),.p (.int .i64 late)] [.p (bT (QO x t s to cl late).1),.p (.int .i64 (QO x t s to cl late).2)]:=by
 have cw:=pH x t.prof s.place to s.time hn hs;unfold QO;generalize WB x.net t.prof s.place to s.time=g at cw hg ⊢;obtain ⟨a,m,e⟩:=g;unfold TH at hd hm hg;simp only at cw hg ⊢;refine Zf [] Tryz.func250 rfl zJ ?_;simp (disch:=omega) only [Tryz.f250,go_sem,seval];refine PY cw (Wp ?_);refine cD ?_ ?_<;>intro h1<;>simp (disch:=omega) only [Sh.out h1,go_sem,seval,↓reduceIte]
 ·exact we
 ·rw [if_neg h1];refine cD ?_ ?_<;>intro h2<;>simp (disch:=omega) only [Sh.out h2,go_sem,seval,↓reduceIte]
  ·exact we
  ·rw [if_neg h2];refine cD ?_ ?_<;>intro h3<;>simp (disch:=omega) only [Sh.out h3,go_sem,seval,↓reduceIte]
   ·exact we
   ·exact we
structure Lab where
 ready:Int
 since:Int
 she:She
 deriving Inhabited
def zShe : She:=⟨false,0,true,[],0,0⟩
def Wq : Lab:=⟨0,0,zShe⟩
def ZO (t:Typ) (L:Lab) (b:Bool):Int:=if b=true then L.ready+t.rest else L.ready
def Wo (L:Lab) (b:Bool):Int:=if b=true then 0 else L.since
def Pk (l:List Tim) (k:Nat) (d:Int) (b:Bool):List Tim:=l.set k { nth l k with dep:=d,rest:=b }
def XX (k:Nat) (d:Int) (b:Bool) (s:She):She:=if k=0 then { s with rest:=b,dep:=d } else { s with times:=Pk s.times (k-1) d b }
def V6 (t:Typ) (sp:List Stp) (k:Nat):Int:=if k=0 then t.src else (nth sp (k-1)).place
def Tg (t:Typ) (sp:List Stp) (k:Nat):Int:=if k=sp.length then t.dst else (nth sp k).place
def Y8 (x:Inst) (t:Typ) (sp:List Stp) (k:Nat) (d:Int):Int×Int×Int:=WB x.net t.prof (V6 t sp k) (Tg t sp k) d
def Wt (t:Typ) (sp:List Stp) (k:Nat) (g:Int×Int×Int) (d s:Int) (h:She):Lab×Int :=
 if ¬g.2.2=0 then (Wq,12)
 else if k=sp.length then
  if t.cls<g.1 then (Wq,15) else if t.drive<s+g.1-d then (Wq,16)
  else (⟨g.1,s+g.1-d,{ h with fin:=g.1,miles:=h.miles+g.2.1 }⟩,0)
 else if (nth sp k).cls<max g.1 (nth sp k).opn then (Wq,14)
 else if t.drive<s+g.1-d then (Wq,16)
 else (⟨max g.1 (nth sp k).opn+(nth sp k).serv,s+g.1-d,{ h with times_c:=false,times:=h.times++ [⟨g.1,max g.1 (nth sp k).opn,0,false⟩],miles:=h.miles+g.2.1 }⟩,0)
def nxtF (x:Inst) (t:Typ) (sp:List Stp) (k:Nat) (L:Lab) (b:Bool):Lab×Int :=
 Wt t sp k (Y8 x t sp k (ZO t L b)) (ZO t L b) (Wo L b) (XX k (ZO t L b) b L.she)
def XM (x:Inst) (t:Typ) (sp:List Stp) (k:Nat) (L:Lab) (b:Bool):Option Lab:=if (nxtF x t sp k L b).2=0 then some (nxtF x t sp k L b).1 else none
def Xu (x:Inst) (t:Typ) (sp:List Stp):Nat->Lab->List Bool->Lab×Int
 | _,L,[]=>(L,0)
 | k,L,b::bs=>if (nxtF x t sp k L b).2=0 then Xu x t sp (k+1) (nxtF x t sp k L b).1 bs else (Wq,(nxtF x t sp k L b).2)
def labF (t:Typ) (st:Int):Lab:=⟨max t.opn st,0,zShe⟩
theorem VJ {x:Inst} {t:Typ} {sp:List Stp} : ∀(bs:List Bool) (k:Nat) (L:Lab),Vi (XM x t sp) k L bs=if (Xu x t sp k L bs).2=0 then some (Xu x t sp k L bs).1 else none
 | [],k,L=>by rfl
 | b::bs,k,L=>by
  rw [Vi,Xu,XM]
  by_cases h:(nxtF x t sp k L b).2=0
  ·simp only [h,if_true];exact VJ bs (k+1) _
  ·simp [h]
structure TrpOk (x:Inst) (t:Typ) (sp:List Stp):Prop where
 net:netR x.net
 mil: ∀a∈x.net.arcs,0<=a.miles/\a.miles<=10000
 opn:0<=t.opn/\t.opn<=t.cls/\t.cls<=4096
 drv:1<=t.drive/\t.drive<=4096
 rst:0<=t.rest/\t.rest<=4096
 stp: ∀s∈sp,0<=s.opn/\s.opn<=s.cls/\s.cls<=4096/\0<=s.serv/\s.serv<=4096
 len:sp.length<=20
structure LabR (k:Nat) (L:Lab):Prop where
 rdy:0<=L.ready/\L.ready<=8192
 snc: -(12288*(k:Int))<=L.since/\L.since<=4096
 mil:0<=L.she.miles/\L.she.miles<=10000*(k:Int)
theorem HB {n:Net} {pr f t τ:Int} (hn:netR n) (hm: ∀a∈n.arcs,0<=a.miles/\a.miles<=10000) (hτ:0<=τ/\τ<=1073741824):(0<=(WB n pr f t τ).1/\(WB n pr f t τ).1<=1107369984)/\(0<=(WB n pr f t τ).2.1/\(WB n pr f t τ).2.1<=10000):=by
 unfold WB
 split
 ·simp
 ·split
  ·grind
  ·split
   ·rename_i h;have hA:=KI h;have h1:=DV (hn.2.2 _ hA).1 hτ;have h2:=QN (t:=τ) (fun p hp=>((hn.2.2 _ hA).2.2 p hp).2.2) _ (Xg _);have h3:=(hn.2.2 _ hA).2.1
    grind [Hb]
   ·simp
theorem JY {x t sp k L} (h:TrpOk x t sp) (hl:LabR k L) (b:Bool):0<=ZO t L b/\ZO t L b<=12288:=by
 have:=h.rst;have:=hl.rdy
 grind [ZO]
theorem E6 {k L} (hl:LabR k L) (b:Bool): -(12288*(k:Int))<=Wo L b/\Wo L b<=4096:=by
 have:=hl.snc
 grind [Wo]
theorem HA {x t sp k L} (h:TrpOk x t sp) (hl:LabR k L) (b:Bool):(0<=(Y8 x t sp k (ZO t L b)).1/\(Y8 x t sp k (ZO t L b)).1<=1107369984)/\(0<=(Y8 x t sp k (ZO t L b)).2.1/\(Y8 x t sp k (ZO t L b)).2.1<=10000):=by
 have:=JY h hl b;exact HB h.net h.mil Za
theorem J6 {k d b s} :(XX k d b s).miles=s.miles:=by grind [XX]
theorem Gq {k d b s} :(XX k d b s).fin=s.fin:=by grind [XX]
theorem K3 {k d b s} :(XX k d b s).times.length=s.times.length:=by grind [XX,Pk]
theorem HQ {x t sp k L b} (h:TrpOk x t sp) (hk:k<=sp.length) (hl:LabR k L) (he:(nxtF x t sp k L b).2=0):LabR (k+1) (nxtF x t sp k L b).1:=by
 have h1:=JY h hl b;have h2:=E6 hl b;obtain ⟨h3,h4⟩:=HA h hl b;have h5:=hl.mil;have h6:=h.opn;have h7:=h.drv;have hm:(XX k (ZO t L b) b L.she).miles=L.she.miles:=J6;unfold nxtF at he ⊢
 generalize Y8 x t sp k (ZO t L b)=g at *
 generalize ZO t L b=d at *
 generalize Wo L b=s at *
 generalize XX k d b L.she=m at *
 unfold Wt at he ⊢
 split at he
 ·simp at he
 ·rename_i c1;rw [if_neg c1]
  split at he
  ·rename_i c2;rw [if_pos c2]
   split at he
   ·simp at he
   ·rename_i c3;rw [if_neg c3]
    split at he
    ·simp at he
    ·rename_i c4;rw [if_neg c4];exact ⟨by grind,by grind,by grind⟩
  ·rename_i c2;rw [if_neg c2];have h8:=h.stp _ (ZD (show k<sp.length by omega))
   split at he
   ·simp at he
   ·rename_i c3;rw [if_neg c3]
    split at he
    ·simp at he
    ·rename_i c4;rw [if_neg c4];exact ⟨by grind,by grind,by grind⟩
theorem EF {x t sp k L b} (hl:L.she.times.length=k) (he:(nxtF x t sp k L b).2=0) (hk:k<sp.length):(nxtF x t sp k L b).1.she.times.length=k+1:=by
 have hm:(XX k (ZO t L b) b L.she).times.length=L.she.times.length:=K3;unfold nxtF at he ⊢
 generalize Y8 x t sp k (ZO t L b)=g at *
 generalize ZO t L b=d at *
 generalize Wo L b=s at *
 generalize XX k d b L.she=m at *
 have hk2: ¬k=sp.length:=Za
 unfold Wt at he ⊢
 grind
def Z9 (m x:Lab):Bool:=decide (m.ready=x.ready)&&decide (m.since<=x.since)
theorem M6 {x t sp k} {m y z:Lab} {b:Bool} (hb:Z9 m y=true) (hn:XM x t sp k y b=some z): ∃u,XM x t sp k m b=some u/\Z9 u z=true:=by
 simp only [Z9,Zt,Zl] at hb;obtain ⟨hb1,hb2⟩:=hb
 have hd:ZO t m b=ZO t y b:=by simp [ZO,hb1]
 have hs:Wo m b<=Wo y b:=by grind [Wo]
 unfold XM at hn ⊢;unfold nxtF at hn ⊢;rw [hd]
 generalize Y8 x t sp k (ZO t y b)=g at *
 generalize ZO t y b=d at *
 generalize Wo y b=s at *
 generalize Wo m b=s2 at *
 generalize XX k d b y.she=h1 at *
 generalize XX k d b m.she=h2 at *
 unfold Wt at hn ⊢
 by_cases c1:g.2.2=0
 ·by_cases c2:k=sp.length
  ·simp only [c1,c2,not_true,if_true,Yv] at hn ⊢
   by_cases c3:t.cls<g.1
   ·grind
   ·by_cases c4:t.drive<s+g.1-d
    ·grind
    ·have c5: ¬t.drive<s2+g.1-d:=Za
     simp only [c3,c4,Yv,if_true,XT] at hn;subst hn;refine ⟨_,by simp only [c3,c5,Yv,if_true];rfl,?_⟩;simp [Z9];omega
  ·simp only [c1,c2,not_true,Yv] at hn ⊢
   by_cases c3:(nth sp k).cls<max g.1 (nth sp k).opn
   ·grind
   ·by_cases c4:t.drive<s+g.1-d
    ·grind
    ·have c5: ¬t.drive<s2+g.1-d:=Za
     simp only [c3,c4,Yv,if_true,XT] at hn;subst hn;refine ⟨_,by simp only [c3,c5,Yv,if_true];rfl,?_⟩;simp [Z9];omega
 grind
def Wd (L:Lab):Int:=L.she.fin
theorem LL {x t sp} {y z:Lab} {b:Bool} (hn:XM x t sp sp.length y b=some z):z.she.fin=z.ready:=by
 unfold XM nxtF Wt at hn
 grind
theorem Gi {x t sp} (ch:Nat->List Bool) (L:Lab):Vj Wd none (JF Z9 (XM x t sp) ch (sp.length+1) 0 [L])=Vj Wd none (Vb (XM x t sp) ch (sp.length+1) 0 L):=by
 have h:=Pd Wd Z9 (XM x t sp) ch (n:=sp.length+1) (Inv:=fun k y=>k=sp.length+1->y.she.fin=y.ready)
  (fun k y b z _ hn hk=>by
   grind [LL]) (fun k m y b z _ _ hb hn=>M6 hb hn)
  (fun m y h1 h2 hb=>by
   simp only [Z9,Zt,Zl] at hb
   rw [Wd,Wd,h1 rfl,h2 rfl];omega) (sp.length+1) 0 [L] Za (fun y _ hk=>Za)
 rw [h];simp
def VU (r:List Bool) (k:Nat):List Bool:=match r[k]? with | some b=> [b] | none=> [false,true]
theorem OX (r:List Bool) (n:Nat) (hn:r.length<=n): ∀(j k:Nat),k+j=r.length->Hx (VU r) (n-k) k=(Y5 (List.replicate (n-r.length) false)).map (r.drop k++ ·)
 | 0,k,h=>by
  have hk:k=r.length:=Za
  subst hk;rw [I6 (n:=n) _ _ _ (fun q hq=>by grind [VU])];simp
 | j+1,k,h=>by
  have e:n-k=(n-(k+1))+1:=Za
  have hlt:k<r.length:=Za
  rw [e,Hx,OX r n hn j (k+1) Za]
  have:VU r k= [r[k]]:=by simp [VU,hlt]
  rw [this,Jc,List.flatMap_nil,Qq,List.map_map,Uv hlt]
  rfl
theorem F4 (r:List Bool) (n:Nat) (hn:r.length<=n):Hx (VU r) n 0=(Y5 (List.replicate (n-r.length) false)).map (r++ ·):=by
 have:=OX r n hn r.length 0 Za
 grind
def Y1 (r:List Bool) (n:Nat):List (List Bool):=(Y5 (List.replicate (n-r.length) false)).map (r++ ·)
def Y9 (r:List Bool) (n:Nat):List Bool:=r++List.replicate (n-r.length) false
def Uo (x:Inst) (t:Typ) (sp:List Stp) (st:Int) (r:List Bool):She×Int :=
 match Vj Wd none ((Y1 r (sp.length+1)).filterMap (Vi (XM x t sp) 0 (labF t st))) with
 | some L=>(L.she,0)
 | none=>(zShe,(Xu x t sp 0 (labF t st) (Y9 r (sp.length+1))).2)
theorem Hh {x t sp} {st:Int} {r:List Bool} (hr:r.length<=sp.length+1):Uo x t sp st r=match Vj Wd none (JF Z9 (XM x t sp) (VU r) (sp.length+1) 0 [labF t st]) with
 | some L=>(L.she,0)
 | none=>(zShe,(Xu x t sp 0 (labF t st) (Y9 r (sp.length+1))).2):=by
 rw [Gi,Vb,F4 r _ hr];rfl
theorem L9 {x t sp} : ∀(bs:List Bool) (k:Nat) (L:Lab),L.she.times.length=k->k+bs.length=sp.length+1->0<bs.length->(Xu x t sp k L bs).2=0->(Xu x t sp k L bs).1.she.times.length=sp.length
 | [],k,L,h1,h2,h3,h=>by simp at h3
 | b::bs,k,L,h1,h2,_,h=>by
  rw [Xu] at h ⊢
  by_cases h4:(nxtF x t sp k L b).2=0
  ·simp only [h4,if_true] at h ⊢
   cases bs with
   | nil =>
    simp at h2;subst h2;rw [Xu];unfold nxtF at h4 ⊢;unfold Wt at h4 ⊢
    split at h4
    ·simp at h4
    ·rename_i c1;rw [if_neg c1];simp only [if_true] at h4 ⊢
     split at h4
     ·simp at h4
     ·rename_i c2;rw [if_neg c2]
      split at h4
      ·simp at h4
      simp_all [if_neg,K3]
   | cons b2 bs =>
    simp at h2;exact L9 (b2::bs) (k+1) _ (EF h1 h4 Za) (by simp;omega) Zb h
  grind
theorem bestF_len {x t sp} {st:Int} {r:List Bool} (hr:r.length<=sp.length+1) (h:(Uo x t sp st r).2=0):(Uo x t sp st r).1.times.length=sp.length:=by
 unfold Uo at h ⊢
 cases hf:Vj Wd none ((Y1 r (sp.length+1)).filterMap (Vi (XM x t sp) 0 (labF t st))) with
 | none =>
  rw [hf] at h;simp only at h ⊢;exfalso
  have hm:Y9 r (sp.length+1)∈Y1 r (sp.length+1):=by
   grind [Y1,Y9,fromB_next]
  have h2:Vi (XM x t sp) 0 (labF t st) (Y9 r (sp.length+1))=some (Xu x t sp 0 (labF t st) (Y9 r (sp.length+1))).1:=by rw [VJ,if_pos h]
  have h3:(Xu x t sp 0 (labF t st) (Y9 r (sp.length+1))).1∈(Y1 r (sp.length+1)).filterMap (Vi (XM x t sp) 0 (labF t st)):=By.2 ⟨_,hm,h2⟩;generalize (Y1 r (sp.length+1)).filterMap (Vi (XM x t sp) 0 (labF t st))=l at hf h3
  cases l with
  | nil=>simp at h3
  | cons a l =>
   rw [Vj] at hf;obtain ⟨z,e,_⟩:=QF Wd l a
   grind
 | some L =>
  simp only;have hm:=fmL_mem _ _ hf;obtain ⟨bs,hbs,hrun⟩:=By.1 hm;rw [VJ] at hrun
  split at hrun
  ·rename_i h5;simp at hrun;subst hrun;obtain ⟨q,hq,rfl⟩:=XD.1 hbs;have hql:=fromB_len _ _ hq;simp at hql;exact L9 _ 0 _ rfl (by grind) (by grind) h5
  ·cases hrun
where
 fmL_mem: ∀(l:List Lab) (L:Lab),Vj Wd none l=some L->L∈l
 | [],L,h=>by simp [Vj] at h
 | a::l,L,h=>by
  rw [Vj] at h;exact fmL_mem2 l a L h
 fmL_mem2: ∀(l:List Lab) (a L:Lab),Vj Wd (some a) l=some L->L∈a::l
 | [],a,L,h=>by grind [Vj]
 | y::l,a,L,h=>by
  rw [Vj] at h
  split at h
  ·have:=fmL_mem2 l y L h;grind
  ·have:=fmL_mem2 l a L h;grind
 fromB_len: ∀(l q:List Bool),q∈Y5 l->q.length=l.length
 | [],q,h=>by grind [Y5]
 | b::bs,q,h=>by
  rw [Y5] at h
  split at h
  ·obtain ⟨q',hq,rfl⟩:=XD.1 h;simp [fromB_len bs q' hq]
  ·rcases Xr.1 h with h | h
   ·obtain ⟨q',hq,rfl⟩:=XD.1 h;simp [fromB_len bs q' hq]
   ·obtain ⟨q',hq,rfl⟩:=XD.1 h;simp [fromB_len (List.replicate bs.length false) q' hq]
 termination_by l=>l.length
 decreasing_by all_goals simp
def XI (x:Inst) (v:Vis):Stp:=if v.drp=true then (nth x.orders v.order.toNat).drp else (nth x.orders v.order.toNat).pick
def Z8 (x:Inst) (l:List Vis):List Stp:=l.map (XI x)
def Wz (t:Typ) (s:Int):Bool:=decide (0<=t.skills)&&decide (0<=s)&&(List.range 63).all fun i=> !s.toNat.testBit i||t.skills.toNat.testBit i
def UX (a c:List Int):Bool:=decide (a.length=c.length)&&(List.range a.length).all fun i=>decide (nth a i<=nth c i)
def U4 (x:Inst) (c:List Int) (l:List Vis):Bool:=(List.range (l.length+1)).all fun n=>UX (Wb x l n) c
def ZX (x:Inst) (r:Rte):Typ:=nth x.types r.typ.toNat
def W3 (l:List Vis) (i:Nat):Bool:= !((l.take i).any fun v=>decide (v.order=(nth l i).order))
def ZT (k t:Int):Bool:=decide (k≠ -1)&&decide (k≠t)
def chgF (x:Inst) (l:List Vis) (t:Int):Nat->Int×Int
 | 0=>(0,0)
 | n+1=>if W3 l n=true then ((chgF x l t n).1+(if ZT (nth x.orders (nth l n).order.toNat).now t=true then 1 else 0),(chgF x l t n).2+(if ZT (nth x.orders (nth l n).order.toNat).last t=true then 1 else 0)) else chgF x l t n
def Zep (x:Inst) (r:Rte) (s:She):Sco :=
 ⟨(ZX x r).fixed+(ZX x r).perMile*s.miles+(ZX x r).perTick*(s.fin-(ZX x r).opn),(chgF x r.visits r.typ r.visits.length).1,(chgF x r.visits r.typ r.visits.length).2,(s.fin-(ZX x r).opn).tdiv 64*(s.fin-(ZX x r).opn).tdiv 64⟩
def Yg (x:Inst) (r:Rte):Int :=
 if ¬(0<=r.typ/\r.typ<(x.types.length:Int)) then 2
 else if ¬Xi x r.visits=0 then Xi x r.visits
 else if (r.visits.any fun v=> !Wz (ZX x r) (nth x.orders v.order.toNat).skills)=true then 18
 else if U4 x (ZX x r).cap r.visits=false then 17
 else if ¬(0<=r.start/\r.start<=4096/\r.rests.length<=r.visits.length+1) then 2
 else 0
def Xp (x:Inst) (r:Rte):She×Int:=Uo x (ZX x r) (Z8 x r.visits) r.start r.rests
def Z4 (x:Inst) (r:Rte):Int:=if Yg x r=0 then (Xp x r).2 else Yg x r
def Wr (x:Inst) (r:Rte):She:=if Z4 x r=0 then (Xp x r).1 else zShe
def Xt (x:Inst) (r:Rte):Sco:=if Z4 x r=0 then Zep x r (Xp x r).1 else zSco
def ZbX : Stp:=⟨0,0,0,0⟩
def Lp (x:Inst) (v:Vis):Bool:=decide (0<=v.order)&&decide (v.order<(x.orders.length:Int))
def Ky (x:Inst) (v:Vis):Bool:=Lp x v&&decide (0<=(XI x v).place)
def B1 (x:Inst) (v:Vis):Stp:=if Lp x v=true then XI x v else ZbX
theorem Mr (x:Inst) (v:Vis) (ho:x.orders.length<=1048576):PT 186 [.p (ZF x),.p (Xf v)] [.p (Ea (B1 x v)),.p (.bool (Ky x v))]:=by
 refine Zf [] Tryz.func186 rfl yA ?_;simp (disch:=omega) only [Tryz.f186,go_sem,seval];refine gF ?_ ?_<;>intro h1<;>simp (disch:=omega) only [Sh.out h1,go_sem,seval,↓reduceIte]
 ·have e:Lp x v=false:=by
   grind [Lp]
  simp only [B1,Ky,e,U2,Yn,Yv,ZbX];exact we
 ·refine cD ?_ ?_<;>intro h2<;>simp (disch:=omega) only [Sh.out h2,go_sem,seval,↓reduceIte]
  ·have e:Lp x v=false:=by
    grind [Lp]
   simp only [B1,Ky,e,U2,Yn,Yv,ZbX];exact we
  ·have e:Lp x v=true:=by simp [Lp];omega
   have hi:v.order.toNat<x.orders.length:=Za
   refine cD ?_ ?_<;>intro hd<;>simp (disch:=omega) only [Sh.out hd,go_sem,seval,↓reduceIte]
   ·have hG:B1 x v=(nth x.orders v.order.toNat).drp:=by simp [B1,e,XI,hd]
    have hV:Ky x v=decide (0<=(nth x.orders v.order.toNat).drp.place):=by simp [Ky,e,XI,hd]
    rw [hG,hV];refine IN (.cons 0 (.cons 1 (.cons 2 (.cons 3 (.cons 4 (.cons 5 .nil .nil) .nil) (.cons 4 (.cons 3 (.cons 5 .nil .nil) .nil) .nil)) (.cons 4 (.cons 2 (.cons 3 (.cons 5 .nil .nil) .nil) .nil) .nil)) (.cons 4 (.cons 1 (.cons 2 (.cons 3 (.cons 5 .nil .nil) .nil) .nil) .nil) .nil)) (.cons 1 (.cons 0 (.cons 2 (.cons 3 (.cons 4 (.cons 5 .nil .nil) .nil) (.cons 4 (.cons 3 (.cons 5 .nil .nil) .nil) .nil)) (.cons 4 (.cons 2 (.cons 3 (.cons 5 .nil .nil) .nil) .nil) .nil)) (.cons 2 (.cons 0 (.cons 3 (.cons 4 (.cons 5 .nil .nil) .nil) (.cons 4 (.cons 3 (.cons 5 .nil .nil) .nil) .nil)) (.cons 3 (.cons 0 (.cons 4 (.cons 5 .nil .nil) .nil) .nil) .nil)) .nil)) .nil)) mixed Zd ?_
    refine Wp ?_
    repeat' first
     | refine FO ?_ ?_
     | exact we
     | simp (disch:=omega) only [go_sem,seval,↓reduceIte]
   ·have hG:B1 x v=(nth x.orders v.order.toNat).pick:=by simp [B1,e,XI,hd]
    have hV:Ky x v=decide (0<=(nth x.orders v.order.toNat).pick.place):=by simp [Ky,e,XI,hd]
    rw [hG,hV];refine IN (.cons 0 (.cons 1 (.cons 2 (.cons 3 (.cons 4 (.cons 5 .nil .nil) .nil) (.cons 4 (.cons 3 (.cons 5 .nil .nil) .nil) .nil)) (.cons 4 (.cons 2 (.cons 3 (.cons 5 .nil .nil) .nil) .nil) .nil)) (.cons 4 (.cons 1 (.cons 2 (.cons 3 (.cons 5 .nil .nil) .nil) .nil) .nil) .nil)) (.cons 1 (.cons 0 (.cons 2 (.cons 3 (.cons 4 (.cons 5 .nil .nil) .nil) (.cons 4 (.cons 3 (.cons 5 .nil .nil) .nil) .nil)) (.cons 4 (.cons 2 (.cons 3 (.cons 5 .nil .nil) .nil) .nil) .nil)) (.cons 2 (.cons 0 (.cons 3 (.cons 4 (.cons 5 .nil .nil) .nil) (.cons 4 (.cons 3 (.cons 5 .nil .nil) .nil) .nil)) (.cons 3 (.cons 0 (.cons 4 (.cons 5 .nil .nil) .nil) .nil) .nil)) .nil)) .nil)) mixed Zd ?_
    refine Wp ?_
    repeat' first
     | refine FO ?_ ?_
     | exact we
     | simp (disch:=omega) only [go_sem,seval,↓reduceIte]
def VI (x:Inst) (r:Rte):Bool:=(decide (0<=r.typ)&&decide (r.typ<(x.types.length:Int))&&decide (0<=r.start)&&decide (r.start<=4096)&&decide (r.visits.length<=20))&&r.visits.all (Ky x)
theorem EO (x:Inst) (r:Rte) (ho:x.orders.length<=1048576) (ht:x.types.length<=1048576) (hl:r.visits.length<=1048576):PC 141 [.p (ZF x),.p (WA r)] (.bool (VI x r)):=by
 refine Zc Tryz.func141 rfl wY ?_;simp (disch:=omega) only [Tryz.f141,go_sem,seval];refine gF ?_ ?_<;>intro h1<;>simp (disch:=omega) only [Sh.out h1,go_sem,seval,↓reduceIte]
 ·simp [VI];omega
 ·refine gF ?_ ?_<;>intro h2<;>simp (disch:=omega) only [Sh.out h2,go_sem,seval,↓reduceIte]
  ·simp [VI];omega
  ·refine gF ?_ ?_<;>intro h3<;>simp (disch:=omega) only [Sh.out h3,go_sem,seval,↓reduceIte]
   ·simp [VI];omega
   ·refine gF ?_ ?_<;>intro h4<;>simp (disch:=omega) only [Sh.out h4,go_sem,seval,↓reduceIte]
    ·simp [VI];omega
    ·refine cD ?_ ?_<;>intro h5<;>simp (disch:=omega) only [Sh.out h5,go_sem,seval]
     ·simp [VI];omega
     ·refine Zk [2,3] (fun k:Nat=> [(5,.p (.int .i64 k))]) (fun _=> [Zj x,Xb r]) (fun k=>k<=r.visits.length/\ ∀j,j<k->Ky x (nth r.visits j)=true) (fun k=>r.visits.length-k) 0 Zb (Weak.mk ?_) ?_
      ·simp (disch:=omega) only [Zj,Xb,go_sem,seval]
      ·rintro k ⟨hk,hno⟩;refine C7 ?_;refine cD ?_ ?_<;>intro h<;>simp (disch:=omega) only [Sh.out h,go_sem,seval,↓reduceIte]
       ·have hk2:k<r.visits.length:=Za
        refine Xe [10,11] 12 mixed Zd Zd Zd Zb (Wp ?_);refine YT (Mr x (nth r.visits k) ho) (Wp ?_);refine ZJ 10 _ _ Zd (by refine Wp ?_;exact ⟨rfl,rfl⟩) ?_;refine Wp ?_;refine ZJ 11 _ _ Zd (by refine Wp ?_;exact ⟨rfl,rfl⟩) (Yk ?_);refine Wp ?_;refine ZP ?_ ?_<;>intro h6
        ·grind [Zq,VI]
        ·exact ⟨k+1,⟨Za,Zm.2 ⟨hno,by grind⟩⟩,Za,wk⟩
       ·have hkl:k=r.visits.length:=Za
        subst hkl
        have:r.visits.all (Ky x)=true:=by
         rw [Zy];intro v hv;obtain ⟨j,hj,rfl⟩:=ZN.1 hv
         grind [Ze]
        grind [VI]
@[go_sem high] theorem Zjh {k k':IntKind} {a b:Int} :G5 false [.p (.int k a),.p (.int k' b)]=some (.int k (max a b)):=by
 grind [G5]
theorem NC {l:List Tim} {m:Tim} {d:Int} {b:Bool} :Pk (l++ [m]) l.length d b=l++ [{ m with dep:=d,rest:=b }]:=by
 grind [Ze,Pk]
theorem Tc {x:Inst} {t:Typ} {sp:List Stp} {k:Nat} {d s m:Int} {h:She} (hk:k<sp.length) (ho:(nth sp k).opn<=(nth sp k).cls) (hm:h.miles=m) :
  (QO x t ⟨V6 t sp k,d,s,m⟩ (nth sp k).place (nth sp k).cls 14).2=(Wt t sp k (Y8 x t sp k d) d s h).2 /\
  ((Wt t sp k (Y8 x t sp k d) d s h).2=0->(QO x t ⟨V6 t sp k,d,s,m⟩ (nth sp k).place (nth sp k).cls 14).1=⟨(nth sp k).place,(Y8 x t sp k d).1,s+(Y8 x t sp k d).1-d,m+(Y8 x t sp k d).2.1⟩ /\
   (Wt t sp k (Y8 x t sp k d) d s h).1=⟨max (Y8 x t sp k d).1 (nth sp k).opn+(nth sp k).serv,s+(Y8 x t sp k d).1-d,{ h with times_c:=false,times:=h.times++ [⟨(Y8 x t sp k d).1,max (Y8 x t sp k d).1 (nth sp k).opn,0,false⟩],miles:=m+(Y8 x t sp k d).2.1 }⟩):=by
 have hne: ¬k=sp.length:=Za
 have e:WB x.net t.prof (V6 t sp k) (nth sp k).place d=Y8 x t sp k d:=by simp [Y8,Tg,hne]
 unfold QO Wt
 grind
theorem Td {x:Inst} {t:Typ} {sp:List Stp} {d s m:Int} {h:She} (hm:h.miles=m) :
  (QO x t ⟨V6 t sp sp.length,d,s,m⟩ t.dst t.cls 15).2=(Wt t sp sp.length (Y8 x t sp sp.length d) d s h).2 /\
  ((Wt t sp sp.length (Y8 x t sp sp.length d) d s h).2=0->(QO x t ⟨V6 t sp sp.length,d,s,m⟩ t.dst t.cls 15).1=⟨t.dst,(Y8 x t sp sp.length d).1,s+(Y8 x t sp sp.length d).1-d,m+(Y8 x t sp sp.length d).2.1⟩ /\
   (Wt t sp sp.length (Y8 x t sp sp.length d) d s h).1=⟨(Y8 x t sp sp.length d).1,s+(Y8 x t sp sp.length d).1-d,{ h with fin:=(Y8 x t sp sp.length d).1,miles:=m+(Y8 x t sp sp.length d).2.1 }⟩):=by
 have e:WB x.net t.prof (V6 t sp sp.length) t.dst d=Y8 x t sp sp.length d:=by simp [Y8,Tg]
 unfold QO Wt
 grind
def ZbG (s:StD):AM.Obj:= .cells [.p (.int .i64 s.place),.p (.int .i64 s.time),.p (.int .i64 s.driven),.p (.int .i64 s.miles)]
def QD (t:Typ) (sp:List Stp) (k:Nat) (L:Lab) (b:Bool):StD:=⟨V6 t sp k,ZO t L b,Wo L b,L.she.miles⟩
theorem ZiP {g:FuncId} {args:List V} {a c:PV} {H:List AM.Obj} {K:V->List AM.Obj->Prop} (h:ACalls Tryz.prog g args [] fun x H'=> ∃b:PV,x= .tup [.p a,.p b,.p c]/\H'= []) (k: ∀b:PV,K (.tup [.p a,.p b,.p c]) H) (ha:Xd 0 args=true:=by rfl):ACalls Tryz.prog g args H K :=
 (h.behind ha H).mono fun x H' hq=>by
  obtain ⟨y,H1,⟨b,rfl,rfl⟩,rfl,rfl⟩:=hq
  grind [shV,shVs]
theorem Yi {x:Inst} {l:List Vis} :(Z8 x l).length=l.length:=by simp [Z8]
theorem E8 {x:Inst} {l:List Vis} {k:Nat} (h:k<l.length):nth (Z8 x l) k=XI x (nth l k):=by
 grind [Ze,Z8]
theorem Aq {P Q:Prop} (h:Q) (e:Q->P:=by intro h;simp (disch:=omega) only [ZG,Zo,Xo,ZC,go_sem,seval];exact h):P:=e h
theorem oI (x:Inst) (r:Rte) (rests:List Bool) (c:Bool) (hok:TrpOk x (ZX x r) (Z8 x r.visits)) (ho:x.orders.length<=1048576) (ht:x.types.length<=1048576) (hne:0<r.visits.length) (hp:VI x r=true) (hl:rests.length=r.visits.length+1) :
  ACalls Tryz.prog 187 [.p (ZF x),.p (WA r),.p (.list c (rests.map eB))] [] fun y H'=> ∃d:PV,y= .tup [.p (D8 (Xu x (ZX x r) (Z8 x r.visits) 0 (labF (ZX x r) r.start) rests).1.she),.p d,.p (.int .i64 (Xu x (ZX x r) (Z8 x r.visits) 0 (labF (ZX x r) r.start) rests).2)]/\H'= []:=by
 have hp2:=hp;simp only [VI,Zt,Zl] at hp2;obtain ⟨⟨⟨⟨⟨p1,p2⟩,p3⟩,p4⟩,p5⟩,p6⟩:=hp2;have hvis: ∀k,k<r.visits.length->Ky x (nth r.visits k)=true:=fun k hk=>Zy.1 p6 _ (Zq hk)
 have hstop: ∀k,k<r.visits.length->B1 x (nth r.visits k)=nth (Z8 x r.visits) k:=fun k hk=>by
  simp_all [Ky,B1,E8]
 have hti:r.typ.toNat<x.types.length:=Za
 have hopn:=hok.opn;have hrst:=hok.rst;have htd:ZX x r=nth x.types r.typ.toNat:=rfl
 generalize hT:ZX x r=t at *
 have hsl:(Z8 x r.visits).length=r.visits.length:=Yi
 generalize hS:Z8 x r.visits=sp at *
 refine Zf [26] Tryz.func187 rfl yB ?_;simp (disch:=omega) only [Tryz.f187,go_sem,seval];refine (EO x r ho ht Za).use (Wp ?_);rw [hp];refine Wp ?_;refine cD ?_ ?_<;>intro h0<;>simp (disch:=omega) only [Sh.out h0,<- htd,go_sem,seval,↓reduceIte]
 ·omega
 ·refine Xe [13] 14 mixed Zd Zd Zd Zb (Wp ?_);refine Zp (LY t ⟨t.src,max t.opn r.start,0,0⟩ (nth rests 0) (by grind)) (Wp ?_);refine ZJ 13 _ _ Zd (by refine Wp ?_;exact ⟨rfl,rfl⟩) (Yk ?_);refine Wp ?_;refine Xe [6] 7 mixed Zd Zd Zd Zb (Wp ?_);refine ZJ 6 _ _ Zd (by refine Wp ?_;exact ⟨rfl,rfl⟩) (Yk ?_);refine Wp ?_;have hL0:LabR 0 (labF t r.start):=⟨by grind [labF],by simp [labF],by simp [labF,zShe]⟩
  have hS0:ER t ⟨t.src,max t.opn r.start,0,0⟩ (nth rests 0)=QD t sp 0 (labF t r.start) (nth rests 0):=by
   simp only [ER,QD,V6,ZO,Wo,labF,zShe,if_true]
   split<;>rfl
  simp (disch:=omega) only [hS0,go_sem,seval]
  refine Xc [26] [2,3,4,6,9,10,11] (fun q:Nat×Lab×List Int=> [(12,.sl 7 0 q.2.2.length q.2.2.length),(13,.p (.int .i64 q.1))])
   (fun q=> [Zj x,Xb r,.cells [.p (.bool false),.p (.int .i64 0),.p (.list true []),.p (.int .i64 0),.p (.int .i64 0)],Yj t,ZbG (QD t sp q.1 q.2.1 (nth rests q.1)),
    .cells [.p (.bool (XX q.1 (ZO t q.2.1 (nth rests q.1)) (nth rests q.1) q.2.1.she).rest),.p (.int .i64 (XX q.1 (ZO t q.2.1 (nth rests q.1)) (nth rests q.1) q.2.1.she).dep),.sl 6 0 (XX q.1 (ZO t q.2.1 (nth rests q.1)) (nth rests q.1) q.2.1.she).times.length (XX q.1 (ZO t q.2.1 (nth rests q.1)) (nth rests q.1) q.2.1.she).times.length,.p (.int .i64 0),.p (.int .i64 0)],
    .elems 4 ((XX q.1 (ZO t q.2.1 (nth rests q.1)) (nth rests q.1) q.2.1.she).times.map eTim),.elems 1 (q.2.2.map eI)])
   (fun q=>q.1<=r.visits.length/\Xu x t sp 0 (labF t r.start) rests=Xu x t sp q.1 q.2.1 (rests.drop q.1)/\LabR q.1 q.2.1/\q.2.1.she.times.length=q.1/\q.2.1.she.fin=0/\(0<q.1->q.2.1.she.times_c=false)/\q.2.2.length=q.1) (fun q=>r.visits.length-q.1) (0,labF t r.start,[])
   ⟨Zb,Zb,hL0,by rfl,by rfl,Zb,Zb⟩ ((Weak.nilC (o:=5) (j:=2) 4 rfl rfl Zb).trans (Weak.ofNil 12 1 rfl Zb (Weak.mk ?_))) ?_
  ·simp (disch:=omega) only [Zj,Xb,Yj,ZbG,QD,V6,XX,labF,zShe,Zo,ZQ,Xo,ZC,ZY,Xh,go_sem,seval]
  ·rintro ⟨k,L,ds⟩ ⟨hk,hrun,hL,hlen,hfin,hclip,hds⟩;simp only at hk hrun hL hlen hfin hclip hds
   have hmlen:(XX k (ZO t L (nth rests k)) (nth rests k) L.she).times.length=k:=by grind [K3]
   have hd:=JY hok hL (nth rests k);have hs:=E6 hL (nth rests k);have hg:=HA hok hL (nth rests k);have hmi:=hL.mil
   generalize hm:XX k (ZO t L (nth rests k)) (nth rests k) L.she=m at *
   have hmm:m.miles=L.she.miles:=by rw [<- hm,J6]
   have hmf:m.fin=0:=by grind [Gq]
   have hdrop:rests.drop k=nth rests k::rests.drop (k+1):=by grind [Uv,Ze]
   have hnx:nxtF x t sp k L (nth rests k)=Wt t sp k (Y8 x t sp k (ZO t L (nth rests k))) (ZO t L (nth rests k)) (Wo L (nth rests k)) m:=by rw [nxtF,hm]
   rw [hdrop,Xu] at hrun;simp (disch:=omega) only [Zj,Xb,Yj,ZbG,go_sem,seval];refine cD ?_ ?_<;>intro h<;>simp (disch:=omega) only [Sh.out h,go_sem,seval,↓reduceIte]
   ·have hk2:k<r.visits.length:=Za
    have hsp:=hok.stp _ (ZD (show k<sp.length by omega));refine Xe [10,11] 12 mixed Zd Zd Zd Zb (Wp ?_);refine YT (Mr x (nth r.visits k) ho) (Wp ?_);refine ZJ 10 _ _ Zd (by refine Wp ?_;exact ⟨rfl,rfl⟩) ?_;refine Wp ?_;refine ZJ 11 _ _ Zd (by refine Wp ?_;exact ⟨rfl,rfl⟩) (Yk ?_);simp (disch:=omega) only [hstop k hk2,go_sem,seval];obtain ⟨f1,f2⟩:=Tc (x:=x) (t:=t) (d:=ZO t L (nth rests k)) (s:=Wo L (nth rests k)) (h:=m) (show k<sp.length by omega) hsp.2.1 hmm
    have he2:WB x.net t.prof (V6 t sp k) (nth sp k).place (ZO t L (nth rests k))=Y8 x t sp k (ZO t L (nth rests k)):=by
     grind [Y8,Tg]
    refine X2 (Mq x t (QD t sp k L (nth rests k)) (nth sp k).place (nth sp k).cls 14 hok.net ?_ ?_ ?_ ?_) ?_
    ·grind [QD]
    ·grind [QD,TH]
    ·grind [QD,TH]
    ·grind [QD,TH]
    have f1':(QO x t (QD t sp k L (nth rests k)) (nth sp k).place (nth sp k).cls 14).2=(nxtF x t sp k L (nth rests k)).2:=by rw [hnx,<- f1];rfl
    refine Wp ?_;rw [f1'];refine cD ?_ ?_<;>intro h3<;>simp (disch:=omega) only [Sh.out h3,go_sem,seval,↓reduceIte]
    ·rw [if_neg h3] at hrun;rw [hrun];simp only [Wq,zShe];exact ⟨_,_,Weak.mk (by simp (disch:=omega) only [Zo,go_sem,seval]),.list true [],rfl,rfl⟩
    ·have h3':(nxtF x t sp k L (nth rests k)).2=0:=Xy.1 h3;rw [if_pos h3'] at hrun;have hL':=HQ hok Za hL h3';rw [hnx] at h3';obtain ⟨f3,f4⟩:=f2 h3';have f3':(QO x t (QD t sp k L (nth rests k)) (nth sp k).place (nth sp k).cls 14).1=⟨(nth sp k).place,(Y8 x t sp k (ZO t L (nth rests k))).1,Wo L (nth rests k)+(Y8 x t sp k (ZO t L (nth rests k))).1-ZO t L (nth rests k),L.she.miles+(Y8 x t sp k (ZO t L (nth rests k))).2.1⟩:=f3
     have hL2:(nxtF x t sp k L (nth rests k)).1=⟨max (Y8 x t sp k (ZO t L (nth rests k))).1 (nth sp k).opn+(nth sp k).serv,Wo L (nth rests k)+(Y8 x t sp k (ZO t L (nth rests k))).1-ZO t L (nth rests k),{ m with times_c:=false,times:=m.times++ [⟨(Y8 x t sp k (ZO t L (nth rests k))).1,max (Y8 x t sp k (ZO t L (nth rests k))).1 (nth sp k).opn,0,false⟩],miles:=L.she.miles+(Y8 x t sp k (ZO t L (nth rests k))).2.1 }⟩:=by grind
     simp (disch:=omega) only [f3',go_sem,seval];refine Xe [13] 14 mixed Zd Zd Zd Zb (Wp ?_);refine ZJ 13 _ _ Zd (by refine Wp ?_;exact ⟨rfl,rfl⟩) (Yk ?_);refine Wp ?_
     generalize (nxtF x t sp k L (nth rests k)).1=L2 at *
     have hS1:ER t ⟨(nth sp k).place,max (Y8 x t sp k (ZO t L (nth rests k))).1 (nth sp k).opn+(nth sp k).serv,Wo L (nth rests k)+(Y8 x t sp k (ZO t L (nth rests k))).1-ZO t L (nth rests k),L.she.miles+(Y8 x t sp k (ZO t L (nth rests k))).2.1⟩ (nth rests (k+1))=QD t sp (k+1) L2 (nth rests (k+1)):=by
      rw [hL2];simp only [ER,QD,V6,ZO,Wo,Nat.add_sub_cancel,if_neg (show ¬k+1=0 by omega)]
      split<;>rfl
     have hM:XX (k+1) (ZO t L2 (nth rests (k+1))) (nth rests (k+1)) L2.she= { m with times_c:=false,times:=m.times++ [⟨(Y8 x t sp k (ZO t L (nth rests k))).1,max (Y8 x t sp k (ZO t L (nth rests k))).1 (nth sp k).opn,ZO t L2 (nth rests (k+1)),nth rests (k+1)⟩],miles:=L.she.miles+(Y8 x t sp k (ZO t L (nth rests k))).2.1 } :=by
      have he:L2.she= { m with times_c:=false,times:=m.times++ [⟨(Y8 x t sp k (ZO t L (nth rests k))).1,max (Y8 x t sp k (ZO t L (nth rests k))).1 (nth sp k).opn,0,false⟩],miles:=L.she.miles+(Y8 x t sp k (ZO t L (nth rests k))).2.1 } :=by rw [hL2]
      rw [he,XX,if_neg Za,Nat.add_sub_cancel]
      grind [NC]
     have hd2:=JY hok hL' (nth rests (k+1));refine Z6 8 mixed Zd Zd (Wp ?_);refine Zp (LY t ⟨(nth sp k).place,max (Y8 x t sp k (ZO t L (nth rests k))).1 (nth sp k).opn+(nth sp k).serv,Wo L (nth rests k)+(Y8 x t sp k (ZO t L (nth rests k))).1-ZO t L (nth rests k),L.she.miles+(Y8 x t sp k (ZO t L (nth rests k))).2.1⟩ (nth rests (k+1)) (by grind)) (Wp ?_);simp (disch:=omega) only [hS1,go_sem,seval];refine ⟨(k+1,L2,ds++ [L2.since]),⟨Za,hrun,hL',by grind,by grind,by grind,by simp [hds]⟩,Za,Weak.mk ?_⟩
     simp (disch:=omega) only [hM,hmlen,Zw,Zz,ZQ,XY,ZG,Zo,go_sem,seval];exact ⟨rfl,by grind⟩
   ·have hkl:k=sp.length:=Za
    subst hkl;obtain ⟨f1,f2⟩:=Td (x:=x) (t:=t) (sp:=sp) (d:=ZO t L (nth rests sp.length)) (s:=Wo L (nth rests sp.length)) (h:=m) hmm
    have he2:WB x.net t.prof (V6 t sp sp.length) t.dst (ZO t L (nth rests sp.length))=Y8 x t sp sp.length (ZO t L (nth rests sp.length)):=by simp [Y8,Tg]
    refine X2 (Mq x t (QD t sp sp.length L (nth rests sp.length)) t.dst t.cls 15 hok.net ?_ ?_ ?_ ?_) ?_
    ·grind [QD]
    ·grind [QD,TH]
    ·grind [QD,TH]
    ·grind [QD,TH]
    have f1':(QO x t (QD t sp sp.length L (nth rests sp.length)) t.dst t.cls 15).2=(nxtF x t sp sp.length L (nth rests sp.length)).2:=by rw [hnx,<- f1];rfl
    refine Wp ?_;rw [f1'];have hdl:rests.drop (sp.length+1)= []:=Bt Za;rw [hdl,Xu] at hrun;refine cD ?_ ?_<;>intro h3<;>simp (disch:=omega) only [Sh.out h3,go_sem,seval,↓reduceIte]
    ·rw [if_neg h3] at hrun;rw [hrun];simp only [Wq,zShe];exact ⟨_,_,Weak.mk (by simp (disch:=omega) only [Zo,go_sem,seval]),.list true [],rfl,rfl⟩
    ·have h3':(nxtF x t sp sp.length L (nth rests sp.length)).2=0:=Xy.1 h3;rw [if_pos h3'] at hrun;rw [hnx] at h3';obtain ⟨f3,f4⟩:=f2 h3';have f3':(QO x t (QD t sp sp.length L (nth rests sp.length)) t.dst t.cls 15).1=⟨t.dst,(Y8 x t sp sp.length (ZO t L (nth rests sp.length))).1,Wo L (nth rests sp.length)+(Y8 x t sp sp.length (ZO t L (nth rests sp.length))).1-ZO t L (nth rests sp.length),L.she.miles+(Y8 x t sp sp.length (ZO t L (nth rests sp.length))).2.1⟩:=f3;rw [hrun,hnx,f4];simp (disch:=omega) only [f3',go_sem,seval];refine Zr (Weak.fz (o:=6) (by rfl)) ?_
     refine Zr (Weak.fz (o:=7) (by rfl)) (Zg [] _ _ _ _ (Aq ?_))
     have hmc:m.times_c=false:=by
      grind [XX]
     exact ⟨_,_,Weak.mk (by simp (disch:=omega) only [hmc,go_sem,seval]),.list false (ds.map eI++ [.int .i64 (Wo L (nth rests sp.length)+(Y8 x t sp sp.length (ZO t L (nth rests sp.length))).1-ZO t L (nth rests sp.length))]),rfl,rfl⟩
theorem jT (x:Inst) (r:Rte) (rests:List Bool) (c:Bool) (hok:TrpOk x (ZX x r) (Z8 x r.visits)) (ho:x.orders.length<=1048576) (ht:x.types.length<=1048576) (hne:0<r.visits.length) (hp:VI x r=true) (hl:rests.length=r.visits.length+1) :
  PT 142 [.p (ZF x),.p (WA r),.p (.list c (rests.map eB))] [.p (D8 (Xu x (ZX x r) (Z8 x r.visits) 0 (labF (ZX x r) r.start) rests).1.she),.p (.int .i64 (Xu x (ZX x r) (Z8 x r.visits) 0 (labF (ZX x r) r.start) rests).2)]:=by
 have cr:=oI x r rests c hok ho ht hne hp hl;generalize (Xu x (ZX x r) (Z8 x r.visits) 0 (labF (ZX x r) r.start) rests)=q at cr ⊢;obtain ⟨L,e⟩:=q;refine Zf [] Tryz.func142 rfl wZ ?_;simp (disch:=omega) only [Tryz.f142,go_sem,seval];refine ZiP cr fun d=>Wp ?_;exact we
def C3 (l:List Bool) (n:Nat):Option (List Bool):=(Yd (l.drop n)).map (l.take n++ ·)
def NJ : Option (List Bool)->PV
 | some l=> .list false (l.map eB)
 | none=> .list true []
theorem J8 : ∀m:Nat,Yd (List.replicate m true)=none
 | 0=>rfl
 | m+1=>by rw [AI,Yd,J8 m];rfl
theorem Gv : ∀(a b r:List Bool),Yd b=some r->Yd (a++b)=some (a++r)
 | [],b,r,h=>h
 | x::a,b,r,h=>by rw [ZY,Yd,Gv a b r h];rfl
theorem eY (a:List Bool) (m:Nat):Yd (a++false::List.replicate m true)=some (a++true::List.replicate m false):=by
 grind [Gv,Yd,J8]
theorem Mk {o:List Bool} {i:Nat} {b:Bool} :(o.map eB).set i (.bool b)=(o.set i b).map eB:=by rw [UE];rfl
theorem eX (l:List Bool) (c:Bool) (n:Nat) (hn:n<=l.length) (h0:0<l.length) (hl:l.length<=1048576):PT 143 [.p (.list c (l.map eB)),.p (.int .i64 (n:Nat))] [.p (NJ (C3 l n)),.p (.bool (C3 l n).isSome)]:=by
 refine Zf [8] Tryz.func143 rfl xA ?_;simp (disch:=omega) only [Tryz.f143,go_sem,seval];rw [if_pos ⟨Za,Za⟩];refine Wp ?_;refine Xc [8] [1] (fun q:Nat×List Bool=> [(6,.sl 0 0 q.2.length q.2.length),(7,.p (.int .i64 ((q.1:Int)-1)))]) (fun q=> [.elems 1 (q.2.map eB)]) (fun q=>n<=q.1/\q.1<=l.length/\q.2=l.take q.1++List.replicate (l.length-q.1) false/\l.drop q.1=List.replicate (l.length-q.1) true) (fun q=>q.1) (l.length,l) (by simp;omega) (Weak.mk ?_) ?_
 ·simp (disch:=omega) only [go_sem,seval]
 ·rintro ⟨j,o⟩ ⟨hj1,hj2,ho,hjt⟩;simp only at hj1 hj2 ho hjt
  have hol:o.length=l.length:=by grind
  refine Wp ?_;refine cD ?_ ?_<;>intro h<;>simp (disch:=omega) only [Sh.out h,go_sem,seval,↓reduceIte]
  ·obtain ⟨i,rfl⟩: ∃i,j=i+1:=⟨j-1,Za⟩
   have hij:(((i+1:Nat):Int)-1)=(i:Int):=Za
   have hat:nth o i=nth l i:=by
    grind [Ze]
   have MN:l.drop i=nth l i::List.replicate (l.length-(i+1)) true:=by
    grind [Uv,Ze]
   have hio:i<o.length:=Za
   simp (disch:=first | omega | (simp only [Zz,ZQ,Zw,Zv,ZE,ZK]<;>omega)) only [Int.add_sub_cancel,Wn,hat,hio,go_sem,seval,↓reduceIte];refine cD ?_ ?_<;>intro h2<;>simp (disch:=omega) only [Sh.out h2,go_sem,seval]
   ·have hf:nth l i=false:=by grind
    have hres:C3 l n=some (o.set i true):=by
     rw [hf] at MN
     have e:l.drop n=(l.drop n).take (i-n)++false::List.replicate (l.length-(i+1)) true:=by
      rw [<- MN,show l.drop i=(l.drop n).drop (i-n) by simp_all,List.take_append_drop]
     rw [C3,e,eY,ho];simp only [KV,XT]
     have e2:l.take (i+1)=l.take n++(l.drop n).take (i-n)++ [nth l i]:=by
      rw [Xm Za,Ze Za]
      congr 1
      have:l.take i=l.take (n+(i-n)):=by congr 1;omega
      grind
     rw [e2,hf]
     have el:(l.take n++(l.drop n).take (i-n)).length=i:=by simp;omega
     rw [Uz (l.take n++(l.drop n).take (i-n)),List.set_append_right _ _ Za,el];simp
    rw [hres];simp (disch:=first | omega | (simp only [Zz,ZQ,Zw,Zv,ZE,ZK]<;>omega)) only [Mk,go_sem,seval,↓reduceIte];refine Zr (Weak.fz (o:=0) (by rfl)) ?_;refine Zg [] _ _ _ _ ?_;simp (disch:=omega) only [ZG,Zo,ZC,go_sem,seval];simp only [BB,if_true];exact we (by simp (disch:=omega) only [NJ,Jo,go_sem,seval])
   ·have hf:nth l i=true:=by grind
    simp (disch:=first | omega | (simp only [Zz,ZQ,Zw,Zv,ZE,ZK]<;>omega)) only [Mk,go_sem,seval];refine ⟨(i,o.set i false),⟨Za,Za,?_,?_⟩,Za,Weak.mk (by simp (disch:=first | omega | (simp only [Zz,ZQ,Zw,Zv,ZE,ZK]<;>omega)) only [BB,go_sem,seval])⟩
    ·grind
    grind
  ·have hjn:j=n:=Za
   have hres:C3 l n=none:=by grind [C3,J8]
   rw [hres];exact we (by simp (disch:=omega) only [NJ,KR,go_sem,seval])
theorem Sm {r q:List Bool} :C3 (r++q) r.length=(Yd q).map (r++ ·):=by simp [C3]
theorem Sy {l:List Bool} :NJ (some l)= .list false (l.map eB):=rfl
theorem Sx : NJ none= .list true []:=rfl
def FL (b:Option Lab):She:=match b with | some L=>L.she | none=>zShe
def FG (r:List Bool) (cur:Option (List Bool)):List (List Bool):=match cur with | some q=>(Y5 q).map (r++ ·) | none=> []
theorem CF {r s:List Bool} :FG r (some s)=(r++s)::FG r (Yd s):=by
 grind [FG,fromB_next]
theorem L8 {x:Inst} {t:Typ} {sp:List Stp} : ∀(bs:List Bool) (k:Nat) (L:Lab),¬(Xu x t sp k L bs).2=0->(Xu x t sp k L bs).1=Wq
 | [],k,L,h=>by simp [Xu] at h
 | b::bs,k,L,h=>by
  rw [Xu] at h ⊢
  split
  ·rename_i c;rw [if_pos c] at h;exact L8 bs _ _ h
  ·rfl
theorem aC (x:Inst) (r:Rte) (hok:TrpOk x (ZX x r) (Z8 x r.visits)) (ho:x.orders.length<=1048576) (ht:x.types.length<=1048576) (hne:0<r.visits.length) (hp:VI x r=true) (hl:r.rests.length<=r.visits.length+1) :
  PT 89 [.p (ZF x),.p (WA r)] [.p (D8 (Xp x r).1),.p (.int .i64 (Xp x r).2)]:=by
 have hsl:(Z8 x r.visits).length=r.visits.length:=Yi;have hp2:=hp;simp only [VI,Zt,Zl] at hp2;have hv20:=hp2.1.2;have hrun:=fun rests (c:Bool) (h:rests.length=r.visits.length+1)=>jT x r rests c hok ho ht hne hp h;have hopt:=fun bs=>VJ (x:=x) (t:=ZX x r) (sp:=Z8 x r.visits) bs 0 (labF (ZX x r) r.start);unfold Xp Uo
 generalize hS:Z8 x r.visits=sp at *
 generalize ZX x r=t at *
 generalize labF t r.start=L0 at *
 refine Zf [5,6] Tryz.func89 rfl rW ?_;simp (disch:=omega) only [Tryz.f89,go_sem,seval];refine (EO x r ho ht Za).use (Wp ?_);rw [hp];refine Wp ?_;refine cD ?_ ?_<;>intro h0<;>simp (disch:=omega) only [Sh.out h0,go_sem,seval,↓reduceIte]
 ·omega
 ·refine UW (Dj 3 rfl rfl (Wp ?_));refine ⟨_,_,LM (e:=4) rfl Tryz.underlying46 Zd rfl rfl rfl ?_ ?_ ?_,?_⟩
  ·simp
  ·simp;omega
  ·intro q hq;obtain ⟨b,_,rfl⟩:=XD.1 hq
   rfl
  ·have hpl:(Y9 r.rests (sp.length+1)).length=r.visits.length+1:=by simp [Y9];omega
   have hpad:r.rests.map eB++(PV.bool false::List.replicate r.visits.length (PV.bool false)).drop (r.rests.map eB).length=(Y9 r.rests (sp.length+1)).map eB:=by
    rw [Y9,XY,<- AI,List.drop_replicate,Bx,hsl,Zv];rfl
   simp only [Xo,ZC];rw [hpad];have h0r:=hopt (Y9 r.rests (sp.length+1))
   have cn: ∀s:List Bool,(r.rests++s).length=r.visits.length+1->PT 143 [.p (.list false ((r.rests++s).map eB)),.p (.int .i64 (r.rests.length:Nat))] [.p (NJ ((Yd s).map (r.rests++ ·))),.p (.bool ((Yd s).map (r.rests++ ·)).isSome)]:=fun s hs=>by
    grind [eX,Sm]
   have e1:(Xu x t sp 0 L0 (Y9 r.rests (sp.length+1))).1.she=FL (Vi (XM x t sp) 0 L0 (Y9 r.rests (sp.length+1))):=by
    rw [h0r]
    split
    ·rfl
    ·rename_i c;rw [L8 _ _ _ c];rfl
   have e2:decide ((Xu x t sp 0 L0 (Y9 r.rests (sp.length+1))).2=0)=(Vi (XM x t sp) 0 L0 (Y9 r.rests (sp.length+1))).isSome:=by
    grind
   have hrp:=hrun (Y9 r.rests (sp.length+1)) false hpl;have hall:Y1 r.rests (sp.length+1)=FG r.rests (some (List.replicate (sp.length+1-r.rests.length) false)):=rfl;refine Zr (Weak.fz (o:=3) (by rfl)) (Zg [] _ _ _ _ (Aq ?_));rw [if_pos hpl];refine X2 hrp (Wp ?_);refine X2 (cn (List.replicate (sp.length+1-r.rests.length) false) hpl) ?_;simp (disch:=omega) only [e1,e2,go_sem,seval]
   have hfm:Vj Wd none ((Y1 r.rests (sp.length+1)).filterMap (Vi (XM x t sp) 0 L0))=Vj Wd (Vi (XM x t sp) 0 L0 (Y9 r.rests (sp.length+1))) ((FG r.rests (Yd (List.replicate (sp.length+1-r.rests.length) false))).filterMap (Vi (XM x t sp) 0 L0)):=by
    rw [hall,CF,List.filterMap_cons];rw [show r.rests++List.replicate (sp.length+1-r.rests.length) false=Y9 r.rests (sp.length+1) from rfl]
    cases Vi (XM x t sp) 0 L0 (Y9 r.rests (sp.length+1)) with
    | none=>rfl
    | some L=>rfl
   clear hall;generalize Vj Wd none ((Y1 r.rests (sp.length+1)).filterMap (Vi (XM x t sp) 0 L0))=res at hfm ⊢;generalize (Xu x t sp 0 L0 (Y9 r.rests (sp.length+1))).2=err0
   refine Zk [2,3,4,8,9] (fun q:Option (List Bool)×Option Lab=> [(7,.p (NJ (q.1.map (r.rests++ ·)))),(10,.p (.bool q.2.isSome)),(11,.p (.bool (q.1.map (r.rests++ ·)).isSome))])
    (fun q=> [Zj x,Xb r,.cells [.p (.bool false),.p (.int .i64 0),.p (.list true []),.p (.int .i64 0),.p (.int .i64 0)],.dead,.cells [.p (.bool (FL q.2).rest),.p (.int .i64 (FL q.2).dep),.p (.list (FL q.2).times_c ((FL q.2).times.map eTim)),.p (.int .i64 (FL q.2).fin),.p (.int .i64 (FL q.2).miles)]])
    (fun q=>res=Vj Wd q.2 ((FG r.rests q.1).filterMap (Vi (XM x t sp) 0 L0))/\ ∀s,q.1=some s->s.length=sp.length+1-r.rests.length) (fun q=>(FG r.rests q.1).length)
    (Yd (List.replicate (sp.length+1-r.rests.length) false),Vi (XM x t sp) 0 L0 (Y9 r.rests (sp.length+1))) ⟨hfm,fun s hs=>by have:=fromB_next.nlen _ _ hs;grind⟩ (Weak.mk ?_) ?_
   ·simp (disch:=omega) only [Zj,Xb,go_sem,seval]
   ·rintro ⟨cur,b⟩ ⟨hR,hcl⟩;simp only at hR hcl
    cases cur with
    | none =>
     simp only [FG,List.filterMap_nil] at hR;simp (disch:=omega) only [Option.map_none,KR,Sx,Zj,Xb,go_sem,seval]
     cases b with
     | none =>
      rw [Vj] at hR;subst hR;simp (disch:=omega) only [KR,V4,go_sem,seval];exact we (by simp (disch:=omega) only [zShe,Zo,go_sem,seval])
     | some m =>
      rw [Vj] at hR;subst hR;simp (disch:=omega) only [Jo,Vw,FL,go_sem,seval];exact we
    | some s =>
     have hsl2:=hcl s rfl;rw [CF,List.filterMap_cons,hopt] at hR
     have hmu:(FG r.rests (Yd s)).length<(FG r.rests (some s)).length:=by rw [CF];simp
     have hnl: ∀s',Yd s=some s'->s'.length=sp.length+1-r.rests.length:=fun s' hs'=>by grind [fromB_next.nlen]
     have hlen:(r.rests++s).length=r.visits.length+1:=by simp;omega
     have hr1:=hrun (r.rests++s) false hlen;have cn1:=cn s hlen;rw [XY] at hr1 cn1;simp (disch:=omega) only [KV,Jo,Sy,Zj,Xb,go_sem,seval];generalize Xu x t sp 0 L0 (r.rests++s)=g at hR hr1;obtain ⟨Lg,eg⟩:=g;simp only at hR hr1;refine X2 hr1 (Wp ?_);refine gT ?_ ?_<;>intro h1<;>simp (disch:=omega) only [Sh.out h1,go_sem,seval,↓reduceIte]
     ·subst h1
      cases b with
      | none =>
       simp (disch:=omega) only [KR,V4,go_sem,seval];refine X2 cn1 (Wp ?_);exact ⟨(Yd s,some Lg),⟨hR,hnl⟩,hmu,Weak.mk (by simp (disch:=omega) only [FL,Jo,go_sem,seval])⟩
      | some m =>
       simp (disch:=omega) only [Jo,Vw,FL,go_sem,seval];refine cD ?_ ?_<;>intro h2<;>simp (disch:=omega) only [Sh.out h2,go_sem,seval,↓reduceIte]
       ·refine X2 cn1 ?_;refine Wp ?_;exact ⟨(Yd s,some Lg),⟨by rw [hR];simp only [if_true,Vj,Wd,h2],hnl⟩,hmu,Weak.mk (by simp (disch:=omega) only [Jo,go_sem,seval])⟩
       ·refine X2 cn1 ?_;refine Wp ?_;exact ⟨(Yd s,some m),⟨by rw [hR];simp only [if_true,Vj,Wd,h2,Yv],hnl⟩,hmu,Weak.mk (by simp (disch:=omega) only [Jo,go_sem,seval])⟩
     ·rw [if_neg h1] at hR;refine X2 cn1 (Wp ?_);exact ⟨(Yd s,b),⟨hR,hnl⟩,hmu,wk⟩
def eR (p:Bool×List Int):PV:= .list p.1 (p.2.map eI)
@[go_sem] theorem ZnQ (p:Bool×List Int):eR p= .list p.1 (p.2.map eI):=Zh rfl rfl
theorem bX (L:List (Bool×List Int)) (c:Bool) (d:Nat) (hd:d<=3) (hL:L.length<=1048576) (h: ∀p∈L,p.2.length=d):PC 283 [.p (.list c (L.map eR)),.p (.int .i64 (d:Nat))] (.bool true):=by
 refine Zc Tryz.func283 rfl Zag ?_
 have e1: ¬(d:Int)<0:=Za
 have e2: ¬(3:Int)<d:=Za
 simp (disch:=omega) only [Tryz.f283,e1,e2,go_sem,seval];refine Zk [0,1] (fun k:Nat=> [(5,.p (.int .i64 k))]) (fun _=> []) (fun k=>k<=L.length) (fun k=>L.length-k) 0 Zb (Weak.mk ?_) ?_
 ·simp (disch:=omega) only [go_sem,seval,↓reduceIte]
 ·intro k hk;refine Wp ?_;refine cD ?_ ?_<;>intro h1<;>simp (disch:=omega) only [Sh.out h1,go_sem,seval,↓reduceIte]
  ·have hk2:k<L.length:=Za
   have hp:=h _ (Zq hk2);simp (disch:=omega) only [hp,go_sem,seval];exact ⟨k+1,Za,Za,wk⟩
def Dd (L:List (Bool×List Int)) (k j:Nat):Int:=((L.take k).map fun p=>nth p.2 j).sum
theorem F1 {L:List (Bool×List Int)} {k j:Nat} (h:k<L.length):Dd L (k+1) j=Dd L k j+nth (nth L k).2 j:=by
 grind [Dd,Xm,Ze]
theorem IX {L:List (Bool×List Int)} {d j:Nat} (h: ∀p∈L,p.2.length=d/\ ∀n∈p.2,0<=n/\n<=1000) (hj:j<d): ∀k,k<=L.length->0<=Dd L k j/\Dd L k j<=1000*(k:Int)
 | 0,_=>by simp [Dd]
 | k+1,hk=>by
  have ih:=IX h hj k Za;obtain ⟨h1,h2⟩:=h _ (Zq (show k<L.length by omega));have:=h2 _ (Zq (show j<(nth L k).2.length by omega))
  grind [F1]
def oW (L:List (Bool×List Int)) (d:Nat):List Int:=(List.range d).map fun j=>Dd L L.length j
theorem oV (L:List (Bool×List Int)) (c:Bool) (d:Nat) (hd:1<=d/\d<=3) (hL:L.length<=1048576) (h: ∀p∈L,p.2.length=d/\ ∀n∈p.2,0<=n/\n<=1000) :
  PT 247 [.p (.list c (L.map eR)),.p (.int .i64 (d:Nat))] [.p (.list false ((oW L d).map eI)),.p (.int .i64 0)]:=by
 refine Zf [13] Tryz.func247 rfl zF ?_;simp (disch:=omega) only [Tryz.f247,go_sem,seval];refine (bX L c d hd.2 hL fun p hp=>(h p hp).1).use (Wp ?_);refine Xc [13] [0,1] (fun q:Nat×List Int=> [(6,.sl 0 0 q.2.length q.2.length),(7,.p (.int .i64 q.1))]) (fun q=> [.elems 1 (q.2.map eI)]) (fun q=>q.1<=d/\q.2=(List.range q.1).map fun j=>Dd L L.length j) (fun q=>d-q.1) (0,[]) Zb (Weak.ofNil 6 1 rfl Zb (Weak.mk ?_)) ?_
 ·simp (disch:=omega) only [Zo,ZQ,go_sem,seval,↓reduceIte]
 ·rintro ⟨j,o⟩ ⟨hj,ho⟩;simp only at hj ho
  have hol:o.length=j:=by rw [ho];simp
  refine Wp ?_;refine cD ?_ ?_<;>intro h1<;>simp (disch:=omega) only [Sh.out h1,go_sem,seval,↓reduceIte]
  ·have hj2:j<d:=Za
   refine Zk [0,1,6,7] (fun k:Nat=> [(8,.p (.int .i64 (Dd L k j))),(9,.p (.int .i64 k))]) (fun _=> [.elems 1 (o.map eI)]) (fun k=>k<=L.length) (fun k=>L.length-k) 0 Zb (Weak.mk ?_) ?_
   ·simp (disch:=omega) only [Dd,WN,Zo,List.sum_nil,go_sem,seval,↓reduceIte]
   ·intro k hk;refine Wp ?_;refine cD ?_ ?_<;>intro h2<;>simp (disch:=omega) only [Sh.out h2,go_sem,seval,↓reduceIte]
    ·have hk2:k<L.length:=Za
     obtain ⟨g1,g2⟩:=h _ (Zq hk2);have g3:=g2 _ (Zq (show j<(nth L k).2.length by omega));have g4:=IX h hj2 k hk;have g5:=F1 (j:=j) hk2
     have g6:j<(nth L k).2.length:=Za
     refine Wp ?_;exact ⟨k+1,Za,Za,Weak.mk (by simp (disch:=omega) only [g5,go_sem,seval])⟩
    ·have hkl:k=L.length:=Za
     subst hkl;refine ⟨(j+1,o++ [Dd L L.length j]),⟨Za,by grind [Yu]⟩,Za,Weak.mk (by simp (disch:=omega) only [Zw,Zz,ZQ,XY,ZG,Zo,go_sem,seval])⟩
  ·have hjd:j=d:=Za
   subst hjd;refine Zr (Weak.fz (o:=0) (by rfl)) ?_;refine Zg [] _ _ _ _ ?_;simp (disch:=omega) only [ZG,Zo,ZC,go_sem,seval];rw [oW,<- ho];exact we
theorem cF (a b:List Int) (c d:Bool) (ha:a.length<=1048576) (hb:b.length<=1048576):PC 140 [.p (.list c (a.map eI)),.p (.list d (b.map eI))] (.bool (UX a b)):=by
 refine Zc Tryz.func140 rfl wX ?_;simp (disch:=omega) only [Tryz.f140,go_sem,seval];refine cD ?_ ?_<;>intro h1<;>simp (disch:=omega) only [Sh.out h1,go_sem,seval]
 ·grind [UX]
 ·have h1':a.length=b.length:=Za
  refine Zk [0,1] (fun k:Nat=> [(5,.p (.int .i64 k))]) (fun _=> []) (fun k=>k<=a.length/\ ∀j,j<k->nth a j<=nth b j) (fun k=>a.length-k) 0 Zb (Weak.mk ?_) ?_
  ·simp (disch:=omega) only [go_sem,seval,↓reduceIte]
  ·rintro k ⟨hk,hno⟩;refine Wp ?_;refine cD ?_ ?_<;>intro h2<;>simp (disch:=omega) only [Sh.out h2,go_sem,seval,↓reduceIte]
   ·have hk2:k<a.length:=Za
    refine XH (Wp ?_);refine cD ?_ ?_<;>intro h3<;>simp (disch:=omega) only [Sh.out h3,go_sem,seval,↓reduceIte]
    ·grind [UX]
    ·exact ⟨k+1,⟨Za,Zm.2 ⟨hno,Za⟩⟩,Za,wk⟩
   ·have hkl:k=a.length:=Za
    simp_all [UX]
theorem bQ (x:Inst) (ht:x.types.length<=1048576):PC 248 [.p (ZF x)] (.int .i64 (dimsOf x.types)):=by
 refine Zc Tryz.func248 rfl zG ?_;simp (disch:=omega) only [Tryz.f248,go_sem,seval];refine cD ?_ ?_<;>intro h1<;>simp (disch:=omega) only [Sh.out h1,go_sem,seval,↓reduceIte]
 ·grind [dimsOf]
 simp_all [dimsOf]
structure LdOk (x:Inst):Prop where
 ord:x.orders.length<=10
 typ:x.types.length<=1048576
 dim:1<=dimsOf x.types/\dimsOf x.types<=3
 load: ∀o∈x.orders,(o.load.length:Int)=dimsOf x.types/\ ∀n∈o.load,0<=n/\n<=1000
theorem UZ {x:Inst} (h:InstOk x):LdOk x:=by
 have ht:=h.types.1;simp only [rng,Zl] at ht;have ho:=h.orders
 have h0:0<x.types.length:=Za
 have hcap:=h.types.2 0 h0;unfold As at hcap;obtain ⟨⟨⟨⟨⟨⟨⟨⟨_,_⟩,_⟩,_⟩,hcap⟩,_⟩,_⟩,_⟩,_⟩:=hcap;simp only [Uq,Zt,Zl,rng] at hcap;refine ⟨ho.1,Za,Za,fun o hm=> ?_⟩;obtain ⟨i,hi,rfl⟩:=ZN.1 hm;have:=(ho.2 i hi).load;rw [Ze hi] at this
 simp_all [loadOk,rng]
def Fs (x:Inst) (l:List Vis) (n k:Nat):List (Bool×List Int):=((List.range k).filter fun i=>FE x l n i&&hasO l i).map fun i=>((nth x.orders i).load_c,(nth x.orders i).load)
theorem Rz {x:Inst} {l:List Vis} {n k:Nat} :Fs x l n (k+1)=Fs x l n k++if (FE x l n k&&hasO l k)=true then [((nth x.orders k).load_c,(nth x.orders k).load)] else []:=by
 grind [Fs,Yu]
theorem aF {x:Inst} {l:List Vis} {n:Nat} : ∀k,(Fs x l n k).length<=k:=fun k=>by
 grind [Fs]
theorem lA {x:Inst} {l:List Vis} {n k:Nat} (h:LdOk x) (hk:k<=x.orders.length): ∀p∈Fs x l n k,p.2.length=(dimsOf x.types).toNat/\ ∀m∈p.2,0<=m/\m<=1000:=fun p hp=>by
 obtain ⟨i,hi,rfl⟩:=XD.1 hp;have hi2:=ZL.1 (U3.1 hi).1;have:=h.load _ (Zq (show i<x.orders.length by omega))
 grind
theorem aG {x:Inst} {l:List Vis} {n:Nat} :oW (Fs x l n x.orders.length) (dimsOf x.types).toNat=Wb x l n:=by
 unfold oW Wb
 grind [Dd,Fs,Dg,JA]
def sF (x:Inst) (l:List Vis) (n i k:Nat):Bool:=(l.take (min k n)).foldl (fun on v=>if v.order=(i:Int) then !v.drp else on) (decide ((nth x.orders i).pick.place<0))
def Nw (l:List Vis) (i k:Nat):Bool:=(l.take k).any fun v=>decide (v.order=(i:Int))
theorem fD {x:Inst} {l:List Vis} {n i k:Nat} (h:k<l.length):sF x l n i (k+1)=if (nth l k).order=(i:Int) then (if k<n then !(nth l k).drp else sF x l n i k) else sF x l n i k:=by
 grind [sF,Xm,Ze]
theorem R1 {l:List Vis} {i k:Nat} (h:k<l.length):Nw l i (k+1)=if (nth l k).order=(i:Int) then true else Nw l i k:=by
 grind [Nw,Xm,Ze]
theorem nH {x:Inst} {l:List Vis} {n i:Nat} (h:n<=l.length):sF x l n i l.length=FE x l n i:=by
 grind [sF,FE]
theorem dD {l:List Vis} {i:Nat} :Nw l i l.length=hasO l i:=by grind [Nw,hasO]
theorem Zh0 (x:Inst) (l:List Vis) (c:Bool) (n:Nat) (hx:LdOk x) (hl:l.length<=1048576) (hn:n<=l.length) :
  PT 185 [.p (ZF x),.p (.list c (l.map Xf)),.p (.int .i64 (n:Nat))] [.p (.list false ((Wb x l n).map eI)),.p (.int .i64 0)]:=by
 have ho:=hx.ord;refine Zf [15] Tryz.func185 rfl xZ ?_;simp (disch:=omega) only [Tryz.f185,go_sem,seval];refine Xc [15] [1,2,3] (fun q:Nat×List (Bool×List Int)=> [(8,.sl 1 0 q.2.length q.2.length),(9,.p (.int .i64 q.1))]) (fun q=> [Zj x,.elems 1 (q.2.map eR)]) (fun q=>q.1<=x.orders.length/\q.2=Fs x l n q.1) (fun q=>x.orders.length-q.1) (0,[]) (by simp [Fs]) (Weak.ofNil 8 1 rfl Zb (Weak.mk ?_)) ?_
 ·simp (disch:=omega) only [Zj,Zo,ZQ,ZY,Xh,go_sem,seval]
 ·rintro ⟨i,o⟩ ⟨hi,hob⟩;simp only at hi hob
  have hol:o.length<=i:=by grind [aF]
  refine Wj ?_;refine cD ?_ ?_<;>intro h1<;>simp (disch:=omega) only [Sh.out h1,go_sem,seval,↓reduceIte]
  ·have hi2:i<x.orders.length:=Za
   refine Zk [1,2,3,8,9] (fun k:Nat=> [(10,.p (.bool (sF x l n i k))),(11,.p (.bool (Nw l i k))),(12,.p (.int .i64 k))]) (fun _=> [Zj x,.elems 1 (o.map eR)]) (fun k=>k<=l.length) (fun k=>l.length-k) 0 Zb (Weak.mk ?_) ?_
   ·simp (disch:=omega) only [Zj,sF,Nw,Nat.zero_min,WN,Qr,List.any_nil,go_sem,seval]
   ·intro k hk;refine Wj ?_;refine cD ?_ ?_<;>intro h2<;>simp (disch:=omega) only [Sh.out h2,go_sem,seval,↓reduceIte]
    ·have hk2:k<l.length:=Za
     have s1:=fD (x:=x) (n:=n) (i:=i) hk2;have s2:=R1 (i:=i) hk2;refine ZP ?_ ?_<;>intro h3
     ·rw [if_neg h3] at s1 s2;exact ⟨k+1,Za,Za,Weak.mk (by simp (disch:=omega) only [s1,s2,go_sem,seval])⟩
     ·have h3':=Xy.1 h3;rw [if_pos h3'] at s1 s2;refine ZP ?_ ?_<;>intro h4
      ·rw [if_pos Za] at s1;exact ⟨k+1,Za,Za,Weak.mk (by simp (disch:=omega) only [s1,s2,go_sem,seval])⟩
      ·rw [if_neg Za] at s1;exact ⟨k+1,Za,Za,Weak.mk (by simp (disch:=omega) only [s1,s2,go_sem,seval])⟩
    ·have hkl:k=l.length:=Za
     subst hkl;have s3:=Rz (x:=x) (l:=l) (n:=n) (k:=i);rw [nH hn,dD];refine QB ?_ ?_<;>intro h5
     ·refine ZP ?_ ?_<;>intro h6
      ·rw [h5,h6,Bool.and_self,if_pos rfl] at s3;exact ⟨(i+1,o++ [((nth x.orders i).load_c,(nth x.orders i).load)]),⟨Za,by grind⟩,Za,Weak.mk (by simp (disch:=omega) only [Zw,Zz,ZQ,XY,ZG,Zo,go_sem,seval])⟩
      ·rw [h5,h6,Bool.and_false,if_neg Zb,Qq] at s3;exact ⟨(i+1,o),⟨Za,by grind⟩,Za,wk⟩
     ·have h5':FE x l n i=false:=Za
      rw [h5',U2,if_neg Zb,Qq] at s3;exact ⟨(i+1,o),⟨Za,by grind⟩,Za,wk⟩
  ·have hik:i=x.orders.length:=Za
   subst hik
   have hD:dimsOf x.types=((dimsOf x.types).toNat:Int):=by have:=hx.dim;omega
   have hok:=lA (l:=l) (n:=n) hx (Xg _);rw [<- hob] at hok;have hs:=aG (x:=x) (l:=l) (n:=n);rw [<- hob] at hs;refine Zr (Weak.fz (o:=1) (by rfl)) (Zg [] _ _ _ _ (Aq ?_));refine (bQ x hx.typ).use (Wp ?_);rw [hD];refine X2 (oV o false (dimsOf x.types).toNat (by have:=hx.dim;omega) Za hok) (Wp ?_);rw [<- hs];exact we
def jK (l:List Int):PV:= .list false (l.map eI)
@[go_sem] theorem vM (l:List Int):jK l= .list false (l.map eI):=Zh rfl rfl
def U5 (x:Inst) (l:List Vis):List (List Int):=(List.range (l.length+1)).map (Wb x l)
theorem Se (x:Inst) (r:Rte) (hx:InstOk x) (hl:r.visits.length<=1048576) (h0:Xi x r.visits=0) (hchk:PC 86 [.p (ZF x),.p (WA r)] (.int .i64 (Xi x r.visits))) :
  PT 139 [.p (ZF x),.p (WA r)] [.p (.list false ((U5 x r.visits).map jK)),.p (.int .i64 0)]:=by
 have hd:=UZ hx;refine Zf [12] Tryz.func139 rfl wW ?_;simp (disch:=omega) only [Tryz.f139,go_sem,seval];refine (hchk).use (Wp ?_);simp (disch:=omega) only [h0,go_sem,seval];refine Xc [12] [2,3] (fun q:Nat×List (List Int)=> [(7,.sl 2 0 q.2.length q.2.length),(8,.p (.int .i64 q.1))]) (fun q=> [Zj x,Xb r,.elems 1 (q.2.map jK)]) (fun q=>q.1<=r.visits.length+1/\q.2=(List.range q.1).map (Wb x r.visits)) (fun q=>r.visits.length+1-q.1) (0,[]) Zb (Weak.ofNil 7 1 rfl Zb (Weak.mk ?_)) ?_
 ·simp (disch:=omega) only [Zj,Xb,Zo,ZQ,ZY,Xh,go_sem,seval]
 ·rintro ⟨k,o⟩ ⟨hk,ho⟩;simp only at hk ho
  have hol:o.length=k:=by rw [ho];simp
  refine C7 ?_;refine cD ?_ ?_<;>intro h1<;>simp (disch:=omega) only [Sh.out h1,go_sem,seval,↓reduceIte]
  ·refine X2 (Zh0 x r.visits r.visits_c k hd hl Za) (Wp ?_);exact ⟨(k+1,o++ [Wb x r.visits k]),⟨Za,by grind [Yu]⟩,Za,Weak.mk (by simp (disch:=omega) only [Zw,Zz,ZQ,XY,ZG,Zo,go_sem,seval])⟩
  ·have hkl:k=r.visits.length+1:=Za
   subst hkl;refine Zr (Weak.fz (o:=2) (by rfl)) (Zg [] _ _ _ _ (Aq ?_));rw [U5,<- ho];exact we
theorem cG (x:Inst) (r:Rte) (hx:InstOk x) (hl:r.visits.length<=1048576) (hty:0<=r.typ/\r.typ<(x.types.length:Int)) (h0:Xi x r.visits=0) (hchk:PC 86 [.p (ZF x),.p (WA r)] (.int .i64 (Xi x r.visits))) :
  PC 88 [.p (ZF x),.p (WA r)] (.int .i64 (if U4 x (ZX x r).cap r.visits=true then 0 else 17)):=by
 have hd:=UZ hx;have htl:=hd.typ
 have hti:r.typ.toNat<x.types.length:=Za
 have hcp:(nth x.types r.typ.toNat).cap.length<=3:=by
  have hcap:=hx.types.2 _ hti;unfold As at hcap;obtain ⟨⟨⟨⟨⟨⟨⟨⟨_,_⟩,_⟩,_⟩,hcap⟩,_⟩,_⟩,_⟩,_⟩:=hcap;simp only [Uq,Zt,Zl,rng] at hcap;omega
 have hll:(U5 x r.visits).length=r.visits.length+1:=by simp [U5]
 have hln: ∀k,k<r.visits.length+1->nth (U5 x r.visits) k=Wb x r.visits k:=fun k hk=>by
  grind [Ze,U5]
 have hal: ∀k,(Wb x r.visits k).length<=3:=fun k=>by rw [DN];have:=hd.dim;omega
 have cl:=Se x r hx hl h0 hchk;unfold ZX
 generalize hL:U5 x r.visits=L at *
 refine Zc Tryz.func88 rfl Zg5 ?_
 have e1: ¬r.typ<0:=Za
 have e2: ¬(x.types.length:Int)<=r.typ:=Za
 simp (disch:=omega) only [Tryz.f88,e1,e2,go_sem,seval];refine X2 cl (Wp ?_);refine Zk [2,3,5] (fun k:Nat=> [(7,.p (.int .i64 k))]) (fun _=> [Zj x,Xb r]) (fun k=>k<=r.visits.length+1/\ ∀j,j<k->UX (Wb x r.visits j) (nth x.types r.typ.toNat).cap=true) (fun k=>r.visits.length+1-k) 0 Zb (Weak.mk ?_) ?_
 ·simp (disch:=omega) only [Zj,Xb,go_sem,seval]
 ·rintro k ⟨hk,hno⟩;simp (disch:=omega) only [Zj,Xb,hll,go_sem,seval];refine cD ?_ ?_<;>intro h1<;>simp (disch:=omega) only [Sh.out h1,go_sem,seval,↓reduceIte]
  ·have hk2:k<r.visits.length+1:=Za
   have hk3:k<L.length:=Za
   have hk4:=hal k;refine XH ?_;simp (disch:=omega) only [hln k hk2,go_sem,seval];refine Zp (cF (Wb x r.visits k) (nth x.types r.typ.toNat).cap false (nth x.types r.typ.toNat).cap_c Za Za) (Wp ?_);refine ZP ?_ ?_<;>intro h2
   ·have h2':UX (Wb x r.visits k) (nth x.types r.typ.toNat).cap=false:=by grind
    have: ¬U4 x (nth x.types r.typ.toNat).cap r.visits=true:=fun h=>by
     grind [U4]
    grind
   ·exact ⟨k+1,⟨Za,Zm.2 ⟨hno,by grind⟩⟩,Za,wk⟩
  ·have:U4 x (nth x.types r.typ.toNat).cap r.visits=true:=by
    grind [U4]
   grind
def IQ (j:Nat):Int:=if j=63 then-9223372036854775808 else ((pw j:Nat):Int)
theorem OI {j:Nat} (h:j<63):IQ j=((pw j:Nat):Int):=by rw [IQ,if_neg Za]
theorem Zbu {j:Nat} (h:j<=62):pw j<=4611686018427387904:=by have:=C4 h;rwa [GE] at this
theorem IR {j:Nat} (h:j<=63):0<IQ j↔j<63:=by
 grind [IQ,H5]
theorem sR {S q:Nat} (hS:S<9223372036854775808) (h:q<=S):IntKind.i64.wrap (q:Int)=(q:Int):=by rw [IntKind.wrap_i64];omega
theorem Zbw {P:Program} {t:TypeId} {S j:Nat} (hS:S<9223372036854775808):X5 P .quo t (.p (.int .i64 (S:Int))) (.p (.int .i64 ((pw j:Nat):Int)))=some (.int .i64 ((S / pw j:Nat):Int)):=by
 have hp:=H5 j;rw [TM Za]
 have e:(S:Int).tdiv ((pw j:Nat):Int)=((S / pw j:Nat):Int):=by
  rfl
 have hle:=Nat.div_le_self S (pw j);rw [e,sR hS hle]
theorem oG {P:Program} {t:TypeId} {S:Nat} :X5 P .rem t (.p (.int .i64 (S:Int))) (.p (.int .i64 2))=some (.int .i64 ((S%2:Nat):Int)):=by
 rfl
theorem ZhK {S j:Nat} (hS:S<9223372036854775808):(IntKind.i64.wrap ((S:Int) / ((pw j:Nat):Int))).tmod 2=((S / pw j%2:Nat):Int):=by
 have hle:=Nat.div_le_self S (pw j)
 grind [sR]
theorem eT {P:Program} {t:TypeId} {j:Nat} (h:j<63):X5 P .mul t (.p (.int .i64 ((pw j:Nat):Int))) (.p (.int .i64 2))=some (.int .i64 (IQ (j+1))):=by
 grind [TK,IQ,Zbu,pw,IntKind.wrap_i64]
theorem TP (t:Typ) (s:Int) (h1:t.skills<9223372036854775808) (h2:s<9223372036854775808):PC 87 [.p (V1 t),.p (.int .i64 s)] (.bool (Wz t s)):=by
 refine Zc Tryz.func87 rfl Zg4 ?_;simp (disch:=omega) only [Tryz.f87,go_sem,seval];refine gF ?_ ?_<;>intro c1<;>simp (disch:=omega) only [Sh.out c1,go_sem,seval,↓reduceIte]
 ·grind [Wz]
 ·refine cD ?_ ?_<;>intro c2<;>simp (disch:=omega) only [Sh.out c2,go_sem,seval]
  ·grind [Wz]
  ·obtain ⟨M,hM⟩: ∃M:Nat,t.skills=(M:Int):=⟨t.skills.toNat,Za⟩;obtain ⟨S,rfl⟩: ∃S:Nat,s=(S:Int):=⟨s.toNat,Za⟩
   have hMl:M<9223372036854775808:=Za
   have hSl:S<9223372036854775808:=Za
   have hab: ∀b:Bool,((List.range 63).all fun i=> !S.testBit i||M.testBit i)=b->Wz t (S:Int)=b:=fun b hb=>by
    simp_all [Wz]
   refine Zk [1,2] (fun j:Nat=> [(5,.p (.int .i64 (IQ j)))]) (fun _=> [Yj t]) (fun j=>j<=63/\ ∀i,i<j->(!S.testBit i||M.testBit i)=true) (fun j=>63-j) 0 Zb (Weak.mk ?_) ?_
   ·simp (disch:=omega) only [Yj,hM,show IQ 0=1 from rfl,go_sem,seval]
   ·rintro j ⟨hj,hno⟩;simp (disch:=omega) only [Yj,hM,go_sem,seval];refine cD ?_ ?_<;>intro c3<;>simp (disch:=omega) only [Sh.out c3,go_sem,seval,↓reduceIte]
    ·have hj2:j<63:=(IR hj).1 c3;simp (disch:=omega) only [OI hj2,ZhK hSl,Hj,go_sem,seval];refine gT ?_ ?_<;>intro c4<;>simp (disch:=omega) only [Sh.out c4,OI hj2,Zbw hMl,ZhK hSl,oG,eT hj2,Hj,Hi,go_sem,seval]
     ·refine cD ?_ ?_<;>intro c5<;>simp (disch:=omega) only [Sh.out c5,eT hj2,go_sem,seval]
      ·grind
      ·exact ⟨j+1,⟨Za,Zm.2 ⟨hno,by grind⟩⟩,Za,Weak.mk (by simp (disch:=omega) only [hM,go_sem,seval])⟩
     ·exact ⟨j+1,⟨Za,Zm.2 ⟨hno,by grind⟩⟩,Za,Weak.mk (by simp (disch:=omega) only [hM,go_sem,seval])⟩
    ·have hj63:j=63:=by
      rcases Wy j 63 with h | h
      ·simp_all [IR]
      ·omega
     simp_all
theorem M9 (l:List Vis) (c:Bool) (n:Nat) (hn:n<l.length) (hl:l.length<=1048576):PC 144 [.p (.list c (l.map Xf)),.p (.int .i64 (n:Nat))] (.bool (W3 l n)):=by
 refine Zc Tryz.func144 rfl xB ?_;simp (disch:=omega) only [Tryz.f144,go_sem,seval];refine Zk [0,1] (fun k:Nat=> [(5,.p (.int .i64 k))]) (fun _=> []) (fun k=>k<=n/\ ∀j,j<k->(nth l j).order≠(nth l n).order) (fun k=>n-k) 0 Zb (Weak.mk ?_) ?_
 ·simp (disch:=omega) only [go_sem,seval,↓reduceIte]
 ·rintro k ⟨hk,hno⟩;refine Wp ?_;refine cD ?_ ?_<;>intro h1<;>simp (disch:=omega) only [Sh.out h1,go_sem,seval,↓reduceIte]
  ·have hk2:k<n:=Za
   have hk3:k<l.length:=Za
   refine XH (Wp ?_);refine cD ?_ ?_<;>intro h2<;>simp (disch:=omega) only [Sh.out h2,go_sem,seval,↓reduceIte]
   ·grind [W3,Ex]
   ·exact ⟨k+1,⟨Za,Zm.2 ⟨hno,h2⟩⟩,Za,wk⟩
  ·have hkn:k=n:=Za
   subst hkn
   have:W3 l k=true:=by
    unfold W3;rw [Yr,XS];intro v hv;obtain ⟨j,j1,j2,rfl⟩:=QR hv
    grind
   rw [this]
def V8 (c m o w:Int):AM.Obj:= .cells [.p (.int .i64 c),.p (.int .i64 m),.p (.int .i64 o),.p (.int .i64 w)]
theorem A4 {x:Inst} {l:List Vis} {t:Int} : ∀n:Nat,(0<=(chgF x l t n).1/\(chgF x l t n).1<=n)/\(0<=(chgF x l t n).2/\(chgF x l t n).2<=n)
 | 0=>by simp [chgF]
 | n+1=>by
  have ih:=A4 (x:=x) (l:=l) (t:=t) n
  grind [chgF]
theorem SS (x:Inst) (r:Rte) (s:She) (hty:0<=r.typ/\r.typ<(x.types.length:Int)) (ho:x.orders.length<=1048576) (ht:x.types.length<=1048576) (hl:r.visits.length<=1048576) (hv:Inr x r.visits)
  (hc:0<=(ZX x r).fixed/\(ZX x r).fixed<=100000/\0<=(ZX x r).perMile/\(ZX x r).perMile<=100/\0<=(ZX x r).perTick/\(ZX x r).perTick<=100) (ho2:0<=(ZX x r).opn/\(ZX x r).opn<=4096)
  (hf: -4096<=s.fin/\s.fin<=8192) (hm:0<=s.miles/\s.miles<=1000000) :
  PC 90 [.p (ZF x),.p (WA r),.p (D8 s)] (Bb (Zep x r s)):=by
 have hti:r.typ.toNat<x.types.length:=Za
 unfold Zep;have htd:nth x.types r.typ.toNat=ZX x r:=rfl
 generalize ZX x r=t at *
 have e1: ¬r.typ<0:=Za
 have e2: ¬(x.types.length:Int)<=r.typ:=Za
 have p1:0<=t.perMile*s.miles/\t.perMile*s.miles<=100*1000000:=⟨VQ Za Za,Vq Za Za Za Za⟩
 have hW: -8192<=s.fin-t.opn/\s.fin-t.opn<=8192:=Za
 have p2: -819200<=t.perTick*(s.fin-t.opn)/\t.perTick*(s.fin-t.opn)<=819200:=by
  generalize s.fin-t.opn=w at hW;have a1:=Cn hW.2 (show 0<=t.perTick by omega);have a2:=Cn hW.1 (show 0<=t.perTick by omega);omega
 have p3: -128<=(s.fin-t.opn).tdiv 64/\(s.fin-t.opn).tdiv 64<=128:=by
  grind
 have p4:0<=(s.fin-t.opn).tdiv 64*(s.fin-t.opn).tdiv 64/\(s.fin-t.opn).tdiv 64*(s.fin-t.opn).tdiv 64<=16384:=by
  generalize (s.fin-t.opn).tdiv 64=q at p3;refine ⟨?_,?_⟩
  ·rcases KY 0 q with h | h
   ·exact VQ h h
   ·exact Int.mul_nonneg_of_nonpos_of_nonpos h h
  ·rcases KY 0 q with h | h
   ·have:=Vq p3.2 p3.2 h Za;omega
   ·have h2:0<= -q:=Za
    have:=Vq (show-q<=128 by omega) (show-q<=128 by omega) h2 Za
    grind
 refine Zc Tryz.func90 rfl Zg6 ?_;simp (disch:=omega) only [Tryz.f90,e1,e2,htd,go_sem,seval];refine Zk [3,4,6,9] (fun k:Nat=> [(10,.p (.int .i64 k))]) (fun k=> [Zj x,Xb r,.cells [.p (.bool s.rest),.p (.int .i64 s.dep),.p (.list s.times_c (s.times.map eTim)),.p (.int .i64 s.fin),.p (.int .i64 s.miles)],V8 0 0 0 0,Yj t,V8 (t.fixed+t.perMile*s.miles+t.perTick*(s.fin-t.opn)) (chgF x r.visits r.typ k).1 (chgF x r.visits r.typ k).2 ((s.fin-t.opn).tdiv 64*(s.fin-t.opn).tdiv 64)]) (fun k=>k<=r.visits.length) (fun k=>r.visits.length-k) 0 Zb (Weak.mk ?_) ?_
 ·simp (disch:=omega) only [Zj,Xb,Yj,V8,chgF,go_sem,seval]
 ·intro k hk;have hch:=A4 (x:=x) (l:=r.visits) (t:=r.typ) k;simp (disch:=omega) only [Zj,Xb,Yj,V8,go_sem,seval];refine cD ?_ ?_<;>intro h1<;>simp (disch:=omega) only [Sh.out h1,go_sem,seval,↓reduceIte]
  ·have hk2:k<r.visits.length:=Za
   obtain ⟨v1,v2⟩:=hv _ (Zq hk2)
   have e3: ¬(nth r.visits k).order<0:=Za
   have e4: ¬(x.orders.length:Int)<=(nth r.visits k).order:=Za
   have v3:(nth r.visits k).order.toNat<x.orders.length:=Za
   simp (disch:=omega) only [e3,e4,go_sem,seval];refine (M9 r.visits r.visits_c k hk2 hl).use (Wp ?_);have hcs:chgF x r.visits r.typ (k+1)=_:=chgF.eq_2 x r.visits r.typ k;refine ZP ?_ ?_<;>intro h2
   ·have h2': ¬W3 r.visits k=true:=by grind
    exact ⟨k+1,Za,Za,Weak.mk (by simp (disch:=omega) only [hcs,if_neg h2',go_sem,seval])⟩
   ·have h2':W3 r.visits k=true:=by grind
    refine XH (Wp ?_);refine gT ?_ ?_<;>intro h3<;>simp (disch:=omega) only [Sh.out h3,go_sem,seval,↓reduceIte]
    ·refine cD ?_ ?_<;>intro h4<;>simp (disch:=omega) only [Sh.out h4,go_sem,seval,↓reduceIte]
     ·have hn:ZT (nth x.orders (nth r.visits k).order.toNat).now r.typ=true:=by simp [ZT,h3,h4]
      refine XH (Wp ?_);refine QB ?_ ?_<;>intro h5
      ·refine ZP ?_ ?_<;>intro h6
       ·have hl2:ZT (nth x.orders (nth r.visits k).order.toNat).last r.typ=true:=by simp [ZT,h5,h6]
        exact ⟨k+1,Za,Za,Weak.mk (by simp (disch:=omega) only [hcs,if_pos h2',hn,hl2,go_sem,seval,↓reduceIte])⟩
       ·have hl2:ZT (nth x.orders (nth r.visits k).order.toNat).last r.typ=false:=by simp_all [ZT]
        exact ⟨k+1,Za,Za,Weak.mk (by simp (disch:=omega) only [hcs,if_pos h2',hn,hl2,VR,Yn,go_sem,seval,↓reduceIte])⟩
      ·have hl2:ZT (nth x.orders (nth r.visits k).order.toNat).last r.typ=false:=by simp_all [ZT]
       exact ⟨k+1,Za,Za,Weak.mk (by simp (disch:=omega) only [hcs,if_pos h2',hn,hl2,VR,Yn,go_sem,seval,↓reduceIte])⟩
     ·have hn:ZT (nth x.orders (nth r.visits k).order.toNat).now r.typ=false:=by simp_all [ZT]
      refine XH (Wp ?_);refine QB ?_ ?_<;>intro h5
      ·refine ZP ?_ ?_<;>intro h6
       ·have hl2:ZT (nth x.orders (nth r.visits k).order.toNat).last r.typ=true:=by simp [ZT,h5,h6]
        exact ⟨k+1,Za,Za,Weak.mk (by simp (disch:=omega) only [hcs,if_pos h2',hn,hl2,VR,Yn,go_sem,seval,↓reduceIte])⟩
       ·have hl2:ZT (nth x.orders (nth r.visits k).order.toNat).last r.typ=false:=by grind
        exact ⟨k+1,Za,Za,Weak.mk (by simp (disch:=omega) only [hcs,if_pos h2',hn,hl2,VR,Yn,go_sem,seval,↓reduceIte])⟩
      ·have hl2:ZT (nth x.orders (nth r.visits k).order.toNat).last r.typ=false:=by simp_all [ZT]
       exact ⟨k+1,Za,Za,Weak.mk (by simp (disch:=omega) only [hcs,if_pos h2',hn,hl2,VR,Yn,go_sem,seval,↓reduceIte])⟩
    ·have hn:ZT (nth x.orders (nth r.visits k).order.toNat).now r.typ=false:=by simp_all [ZT]
     refine XH (Wp ?_);refine QB ?_ ?_<;>intro h5
     ·refine ZP ?_ ?_<;>intro h6
      ·have hl2:ZT (nth x.orders (nth r.visits k).order.toNat).last r.typ=true:=by simp [ZT,h5,h6]
       exact ⟨k+1,Za,Za,Weak.mk (by simp (disch:=omega) only [hcs,if_pos h2',hn,hl2,VR,Yn,go_sem,seval,↓reduceIte])⟩
      ·have hl2:ZT (nth x.orders (nth r.visits k).order.toNat).last r.typ=false:=by simp_all [ZT]
       exact ⟨k+1,Za,Za,Weak.mk (by simp (disch:=omega) only [hcs,if_pos h2',hn,hl2,VR,Yn,go_sem,seval,↓reduceIte])⟩
     ·have hl2:ZT (nth x.orders (nth r.visits k).order.toNat).last r.typ=false:=by grind
      exact ⟨k+1,Za,Za,Weak.mk (by simp (disch:=omega) only [hcs,if_pos h2',hn,hl2,VR,Yn,go_sem,seval,↓reduceIte])⟩
  grind
theorem SqOk.len {x:Inst} {l:List Vis} (h:SqOk x l) (hn:x.orders.length<=10):l.length<=20:=by
 have h1:=List.Nodup.length_le_of_subset (l₁ :=l) (l₂ :=(List.range 10).flatMap fun i:Nat=> [(⟨(i:Int),false⟩:Vis),⟨(i:Int),true⟩]) h.nd (fun v hv=>by
  obtain ⟨v1,v2⟩:=h.inr v hv;rw [We];refine ⟨v.order.toNat,ZL.2 Za,?_⟩;obtain ⟨o,d⟩:=v
  have e:((o.toNat:Nat):Int)=o:=by grind
  simp_all)
 have h2:((List.range 10).flatMap fun i:Nat=> [(⟨(i:Int),false⟩:Vis),⟨(i:Int),true⟩]).length=20:=rfl;omega
theorem SqOk.vis {x:Inst} {l:List Vis} (h:SqOk x l) {v:Vis} (hv:v∈l):Ky x v=true:=by
 obtain ⟨v1,v2⟩:=h.inr v hv;obtain ⟨i,hi⟩: ∃i:Nat,v.order=(i:Int):=⟨v.order.toNat,Za⟩;have ho:=h.own (i:=i) ⟨v,hv,hi⟩
 have hpl:0<=(XI x v).place:=by
  unfold XI;rw [hi,X3]
  cases hd:v.drp with
  | true=>exact ho.isD (by rw [<- hi,<- hd];exact hv)
  | false=>exact ho.isP (by rw [<- hi,<- hd];exact hv)
 simp [Ky,Lp,v1,v2,hpl]
theorem nX {x:Inst} {r:Rte} (h:SqOk x r.visits) (hn:x.orders.length<=10) (ht:0<=r.typ/\r.typ<(x.types.length:Int)):VI x r=(decide (0<=r.start)&&decide (r.start<=4096)):=by
 have h1:r.visits.all (Ky x)=true:=Zy.2 fun v hv=>h.vis hv;have h2:=h.len hn
 grind [VI]
theorem Pn {n:Net} (h:netOk n):netR n/\ ∀a∈n.arcs,0<=a.miles/\a.miles<=10000:=by
 obtain ⟨⟨⟨h1,_⟩,h2⟩,h3⟩:=h
 have ha: ∀a∈n.arcs,kC a/\0<=a.miles/\a.miles<=10000:=fun a hm=>by
  obtain ⟨i,hi,rfl⟩:=ZN.1 hm;have:=h3 i hi;unfold ID at this;rw [Ze hi] at this;obtain ⟨⟨⟨⟨⟨_,g1⟩,_⟩,g2⟩,g3⟩,g4⟩:=this;refine ⟨⟨g2,g3,fun p hp=> ?_⟩,g1.2.2.1,g1.2.2.2.1⟩;obtain ⟨j,hj,rfl⟩:=ZN.1 hp
  simp_all [Ks,Ze,Ij,rng]
 exact ⟨⟨Za,Za,fun a hm=>(ha a hm).1⟩,fun a hm=>(ha a hm).2⟩
theorem VK {x:Inst} (hx:InstOk x) {i:Nat} (hi:i<x.types.length):(0<=(nth x.types i).opn/\(nth x.types i).opn<=(nth x.types i).cls/\(nth x.types i).cls<=4096)/\(1<=(nth x.types i).drive/\(nth x.types i).drive<=4096)/\(0<=(nth x.types i).rest/\(nth x.types i).rest<=4096) /\
  (0<=(nth x.types i).fixed/\(nth x.types i).fixed<=100000/\0<=(nth x.types i).perMile/\(nth x.types i).perMile<=100/\0<=(nth x.types i).perTick/\(nth x.types i).perTick<=100)/\(0<=(nth x.types i).skills/\(nth x.types i).skills<=1073741823):=by
 have ht:=hx.types.2 i hi
 simp_all [As,rng]
theorem Kw {x:Inst} {r:Rte} (hx:InstOk x) (ht:0<=r.typ/\r.typ<(x.types.length:Int)) (h:SqOk x r.visits):TrpOk x (ZX x r) (Z8 x r.visits):=by
 have hti:r.typ.toNat<x.types.length:=Za
 obtain ⟨t1,t2,t3,_⟩:=VK hx hti;obtain ⟨n1,n2⟩:=Pn hx.net;refine ⟨n1,n2,t1,t2,t3,fun s hs=> ?_,by rw [Yi];exact h.len hx.orders.1⟩;obtain ⟨v,hv,rfl⟩:=XD.1 hs;obtain ⟨v1,v2⟩:=h.inr v hv
 have hi:v.order.toNat<x.orders.length:=Za
 have ho:=hx.orders.2 _ hi;have hvis:=h.vis hv;have hp:=ho.pstp;have hd:=ho.dstp;simp only [stpOk,Zl] at hp hd;simp only [Ky,Zt,Zl] at hvis;have h3:=hvis.2;unfold XI at h3 ⊢
 grind
theorem Ma {x t sp} (h:TrpOk x t sp): ∀(bs:List Bool) (k:Nat) (L:Lab),k+bs.length=sp.length+1->LabR k L->(Xu x t sp k L bs).2=0->LabR (sp.length+1) (Xu x t sp k L bs).1/\(bs≠ []->(Xu x t sp k L bs).1.she.fin=(Xu x t sp k L bs).1.ready)
 | [],k,L,hk,hl,h0=>by
  simp at hk;subst hk;exact ⟨hl,fun h=>absurd rfl h⟩
 | b::bs,k,L,hk,hl,h0=>by
  simp at hk;rw [Xu] at h0 ⊢
  split at h0
  ·rename_i c;rw [if_pos c];obtain ⟨h1,h2⟩:=Ma h bs (k+1) _ Za (HQ h Za hl c) h0;refine ⟨h1,fun _=> ?_⟩
   cases bs with
   | nil =>
    simp at hk;subst hk;exact LL (x:=x) (t:=t) (sp:=sp) (y:=L) (b:=b) (by rw [XM,if_pos c];rfl)
   | cons b2 bs=>grind
  omega
theorem D2 {x t sp} {st:Int} {r:List Bool} (h:TrpOk x t sp) (hs:0<=st/\st<=4096) (hr:r.length<=sp.length+1) (h0:(Uo x t sp st r).2=0):(0<=(Uo x t sp st r).1.fin/\(Uo x t sp st r).1.fin<=8192)/\(0<=(Uo x t sp st r).1.miles/\(Uo x t sp st r).1.miles<=210000):=by
 have hL0:LabR 0 (labF t st):=⟨by have:=h.opn;grind [labF],by simp [labF],by simp [labF,zShe]⟩;have hl:=h.len
 have key: ∀bs∈Y1 r (sp.length+1),(Xu x t sp 0 (labF t st) bs).2=0->(0<=(Xu x t sp 0 (labF t st) bs).1.she.fin/\(Xu x t sp 0 (labF t st) bs).1.she.fin<=8192)/\(0<=(Xu x t sp 0 (labF t st) bs).1.she.miles/\(Xu x t sp 0 (labF t st) bs).1.she.miles<=210000):=fun bs hbs he=>by
  obtain ⟨q,hq,rfl⟩:=XD.1 hbs;have hql:=bestF_len.fromB_len _ _ hq;simp at hql
  have hne:r++q≠ []:=fun e=>by
   simp_all
  obtain ⟨g1,g2⟩:=Ma h (r++q) 0 _ (by simp;omega) hL0 he;rw [g2 hne];have:=g1.rdy;have:=g1.mil;omega
 unfold Uo at h0 ⊢
 cases hf:Vj Wd none ((Y1 r (sp.length+1)).filterMap (Vi (XM x t sp) 0 (labF t st))) with
 | some L =>
  simp only;have:=bestF_len.fmL_mem _ _ hf
  grind [VJ]
 | none =>
  grind [zShe]
theorem Rv (x:Inst) (r:Rte) (ho:x.orders.length<=1048576) (ht:x.types.length<=1048576) (hl:r.visits.length<=1048576) (hbad:VI x r=false\/r.visits.length+1<r.rests.length) :
  PT 89 [.p (ZF x),.p (WA r)] [.p (D8 zShe),.p (.int .i64 2)]:=by
 refine Zf [] Tryz.func89 rfl rW ?_;simp (disch:=omega) only [Tryz.f89,go_sem,seval];refine (EO x r ho ht hl).use (Wp ?_);refine gF ?_ ?_<;>intro h1<;>simp (disch:=omega) only [Sh.out h1,go_sem,seval,↓reduceIte]
 ·exact we (by simp (disch:=omega) only [zShe,Zo,go_sem,seval])
 ·have h2:r.visits.length+1<r.rests.length:=hbad.resolve_left (by grind);refine cD ?_ ?_<;>intro h3<;>simp (disch:=omega) only [Sh.out h3,go_sem,seval,↓reduceIte]
  ·exact we (by simp (disch:=omega) only [zShe,Zo,go_sem,seval])
  ·omega
theorem lH (x:Inst) (r:Rte) (hx:InstOk x) (hl:r.visits.length<=1048576):PC 86 [.p (ZF x),.p (WA r)] (.int .i64 (Xi x r.visits)):=by
 have hf:=YV hx;have hr:=hx.rules;obtain ⟨h1,h2⟩:=Qn.1 hr
 have ha:x.apart.length<=1048576:=by
  have h3:=(Qn.1 h1).1
  grind [MN]
 have hb:x.before.length<=1048576:=by
  have h3:=(Qn.1 h2).1
  grind [MN]
 have:=NZ x r (by have:=hf.len;omega) hl ha hb hf.plc
 grind [oE]
def Bc (x:Inst) (r:Rte):V:= .tup [.p (D8 (Wr x r)),.p (Bb (Xt x r)),.p (.int .i64 (Z4 x r))]
theorem Yo {x:Inst} {r:Rte} {e:Int} (h:Z4 x r=e) (h0:e≠0):Bc x r= .tup [.p (D8 zShe),.p (Bb zSco),.p (.int .i64 e)]:=by
 simp_all [Bc,Wr,Xt]
theorem Bd (x:Inst) (r:Rte) (hx:InstOk x) (hl:r.visits.length<=1048576) (hrl:r.rests.length<=1048576):ACalls Tryz.prog 48 [.p (ZF x),.p (WA r)] [] fun y H'=>y=Bc x r/\H'= []:=by
 have hld:=UZ hx;have htl:=hld.typ;have hol:=hld.ord;have chk:=lH x r hx hl
 have htb:x.types.length<=6:=by have:=hx.types.1;simp only [rng,Zl] at this;omega
 refine Zf [] Tryz.func48 rfl ZgQ ?_;simp (disch:=omega) only [Tryz.f48,go_sem,seval];refine gF ?_ ?_<;>intro h1<;>simp (disch:=omega) only [Sh.out h1,go_sem,seval,↓reduceIte]
 ·have e:Yg x r=2:=by rw [Yg,if_pos Za]
  rw [Yo (e:=2) (by rw [Z4,e];rfl) Za];exact we (by simp (disch:=omega) only [zShe,zSco,Zo,go_sem,seval])
 ·refine cD ?_ ?_<;>intro h2<;>simp (disch:=omega) only [Sh.out h2,go_sem,seval,↓reduceIte]
  ·have e:Yg x r=2:=by simp_all [Yg]
   rw [Yo (e:=2) (by rw [Z4,e];rfl) Za];exact we (by simp (disch:=omega) only [zShe,zSco,Zo,go_sem,seval])
  ·have hty:0<=r.typ/\r.typ<(x.types.length:Int):=Za
   have hti:r.typ.toNat<x.types.length:=Za
   refine (chk).use (Wp ?_);refine cD ?_ ?_<;>intro h3<;>simp (disch:=omega) only [Sh.out h3,go_sem,seval,↓reduceIte]
   ·have e:Yg x r=Xi x r.visits:=by simp_all [Yg]
    rw [Yo (e:=Xi x r.visits) (by simp_all [Z4]) h3];exact we (by simp (disch:=omega) only [zShe,zSco,Zo,go_sem,seval])
   ·have h3':=Xy.1 h3;have hsq:=Ua h3'
    have hvn:0<r.visits.length:=by
     have:=hsq.ne
     grind
    have hok:=Kw hx hty hsq;have hnum:=VK hx hti
    have hr0:Yg x r=if (r.visits.any fun v=> !Wz (ZX x r) (nth x.orders v.order.toNat).skills)=true then 18 else if U4 x (ZX x r).cap r.visits=false then 17 else if ¬(0<=r.start/\r.start<=4096/\r.rests.length<=r.visits.length+1) then 2 else 0:=by
     rw [Yg,if_neg (fun h=>h hty),if_neg h3]
    have htyp:nth x.types r.typ.toNat=ZX x r:=rfl;rw [htyp] at hnum;have hf17:=cG x r hx hl hty h3' chk;have hposs:=nX hsq hol hty
    have hsk: ∀k,k<r.visits.length->(nth r.visits k).order.toNat<x.orders.length/\0<=(nth x.orders (nth r.visits k).order.toNat).skills/\(nth x.orders (nth r.visits k).order.toNat).skills<=1073741823:=fun k hk=>by
     obtain ⟨v1,v2⟩:=hsq.inr _ (Zq hk)
     have hi:(nth r.visits k).order.toNat<x.orders.length:=Za
     exact ⟨hi,(hx.orders.2 _ hi).skills⟩
    refine Zk [2,3,4,5] (fun k:Nat=> [(8,.p (.int .i64 k))]) (fun _=> [Zj x,Xb r,.cells [.p (.bool false),.p (.int .i64 0),.p (.list true []),.p (.int .i64 0),.p (.int .i64 0)],V8 0 0 0 0])
     (fun k=>k<=r.visits.length/\ ∀j,j<k->Wz (ZX x r) (nth x.orders (nth r.visits j).order.toNat).skills=true) (fun k=>r.visits.length-k) 0 Zb (Weak.mk ?_) ?_
    ·simp (disch:=omega) only [Zj,Xb,V8,go_sem,seval]
    ·rintro k ⟨hk,hno⟩;simp (disch:=omega) only [Zj,Xb,V8,go_sem,seval];refine cD ?_ ?_<;>intro h4<;>simp (disch:=omega) only [Sh.out h4,go_sem,seval,↓reduceIte]
     ·have hk2:k<r.visits.length:=Za
      obtain ⟨s1,s2,s3⟩:=hsk k hk2;obtain ⟨v1,v2⟩:=hsq.inr _ (Zq hk2);refine XH ?_;simp (disch:=omega) only [htyp,go_sem,seval];refine Zp (TP (ZX x r) (nth x.orders (nth r.visits k).order.toNat).skills Za Za) (Wp ?_);refine ZP ?_ ?_<;>intro h5
      ·have e:Yg x r=18:=by
        rw [hr0,if_pos]
        grind [Zq]
       rw [Yo (e:=18) (by rw [Z4,e];rfl) Za];exact we (by simp (disch:=omega) only [zShe,zSco,Zo,go_sem,seval])
      ·exact ⟨k+1,⟨Za,Zm.2 ⟨hno,by grind⟩⟩,Za,wk⟩
     ·have hkl:k=r.visits.length:=Za
      subst hkl
      have hall: ¬(r.visits.any fun v=> !Wz (ZX x r) (nth x.orders v.order.toNat).skills)=true:=fun h=>by
       obtain ⟨v,hv,hb⟩:=UC.1 h;obtain ⟨j,hj,rfl⟩:=ZN.1 hv
       grind [Ze]
      rw [if_neg hall] at hr0;refine (hf17).use (Wp ?_)
      cases hlb:U4 x (ZX x r).cap r.visits with
      | false =>
       have e:Yg x r=17:=by grind
       simp only [Yn,Yv];refine Wp ?_;rw [Yo (e:=17) (by rw [Z4,e];rfl) Za];exact we (by simp (disch:=omega) only [zShe,zSco,Zo,go_sem,seval])
      | true =>
       rw [hlb,if_neg Zb] at hr0;simp only [if_true];refine Wp ?_
       by_cases h6:0<=r.start/\r.start<=4096/\r.rests.length<=r.visits.length+1
       ·have e:Yg x r=0:=Za
        have hp:VI x r=true:=by grind
        have ee:Z4 x r=(Xp x r).2:=by rw [Z4,if_pos e]
        have cb:=aC x r hok Za htl hvn hp h6.2.2;have hbr:=D2 hok ⟨h6.1,h6.2.1⟩ (by rw [Yi];exact h6.2.2);have hbr:(Xp x r).2=0->_:=hbr
        change (Xp x r).2=0->(0<=(Xp x r).1.fin/\(Xp x r).1.fin<=8192)/\(0<=(Xp x r).1.miles/\(Xp x r).1.miles<=210000) at hbr
        have es:Wr x r=if (Xp x r).2=0 then (Xp x r).1 else zShe:=by rw [Wr,ee]
        have ep:Xt x r=if (Xp x r).2=0 then Zep x r (Xp x r).1 else zSco:=by rw [Xt,ee]
        unfold Bc;rw [ee,es,ep];clear ee es ep
        generalize Xp x r=q at *
        obtain ⟨sh,eb⟩:=q;simp only at cb hbr ⊢;refine X2 cb (Wp ?_);refine cD ?_ ?_<;>intro h7<;>simp (disch:=omega) only [Sh.out h7,go_sem,seval,↓reduceIte]
        ·exact we (by simp (disch:=omega) only [zShe,zSco,Zo,go_sem,seval])
        ·have h7':=Xy.1 h7
         try rw [if_pos h7',if_pos h7']
         subst h7';obtain ⟨g1,g2⟩:=hbr rfl;refine Z6 5 mixed Zd Zd (Wp ?_);refine Zp (SS x r sh hty Za htl hl hsq.inr hnum.2.2.2.1 Za Za Za) (Wp ?_);exact we
       ·have e:Yg x r=2:=Za
        rw [Yo (e:=2) (by rw [Z4,e];rfl) Za];refine X2 (Rv x r Za htl hl ?_) ?_
        ·grind
        ·refine Wp ?_;exact we (by simp (disch:=omega) only [zShe,zSco,Zo,go_sem,seval])
theorem Ti (x:Inst) (r:Rte) (hx:InstOk x) (hl:r.visits.length<=1048576) (hrl:r.rests.length<=1048576):PC 46 [.p (ZF x),.p (WA r)] (.int .i64 (Z4 x r)):=by
 have ce:=Bd x r hx hl hrl;refine Zc Tryz.func46 rfl ZgO ?_;simp (disch:=omega) only [Tryz.f46,go_sem,seval];unfold Bc at ce;refine PY ce ?_;simp (disch:=omega) only [go_sem,seval,↓reduceIte]
theorem ZbC {p q:Pt} {t:Int} (h1:p.t<=t) (h2:t<q.t) (hp:p.t<=p.a) (hq:q.t<=q.a):t<=FK p q t:=by
 unfold FK
 have hw:0<q.t-p.t:=Za
 have key:(t-p.a)*(q.t-p.t)<=(t-p.t)*(q.a-p.a)+q.t-p.t-1:=by
  have e:(t-p.t)*(q.a-p.a)-(t-p.a)*(q.t-p.t)=(t-p.t)*(q.a-q.t)+(p.a-p.t)*(q.t-t):=by
   grind
  have h3:0<=(t-p.t)*(q.a-q.t):=VQ Za Za;have h4:0<=(p.a-p.t)*(q.t-t):=VQ Za Za;omega
 have:=Int.le_ediv_of_mul_le hw key;omega
theorem kE {l:List Pt} {t:Int} (hl:WE l):t<=Q2 l t:=by
 obtain ⟨⟨hl1,hl2⟩,hpt⟩:=hl;unfold Q2
 split
 ·rename_i i hi;have hm:=Uw hi;have hs:=Jr hi;simp at hm;simp only [Qv,Zt,Zl] at hs;obtain ⟨⟨p1,p2,p3,p4⟩,_⟩:=hpt i Za;obtain ⟨⟨q1,q2,q3,q4⟩,q5⟩:=hpt (i+1) Za
  simp_all [ZbC]
 ·obtain ⟨⟨p1,p2,p3,p4⟩,_⟩:=hpt 0 Za;obtain ⟨⟨q1,q2,q3,q4⟩,_⟩:=hpt (l.length-1) Za;omega
theorem dA {n:Net} {pr f t τ:Int} (hn:netR n) (h:(WB n pr f t τ).2.2=0):τ<=(WB n pr f t τ).1:=by
 unfold WB at h ⊢
 split at h
 ·simp at h
 ·rename_i c1;rw [if_neg c1]
  split at h
  ·grind
  ·rename_i c2;rw [if_neg c2]
   split at h
   ·rename_i c3;rw [if_pos c3];have hA:=KI c3;have h1:=kE (t:=τ) (hn.2.2 _ hA).1;have h2:=QN (t:=τ) (fun p hp=>((hn.2.2 _ hA).2.2 p hp).2.2) _ (Xg _)
    grind [Hb]
   ·simp at h
theorem FW {x t sp} {st:Int} {r:List Bool} (hr:r.length<=sp.length+1) (h:(Uo x t sp st r).2=0): ∃bs:List Bool,bs.length=sp.length+1/\(Xu x t sp 0 (labF t st) bs).2=0/\(Uo x t sp st r).1=(Xu x t sp 0 (labF t st) bs).1.she:=by
 unfold Uo at h ⊢
 cases hf:Vj Wd none ((Y1 r (sp.length+1)).filterMap (Vi (XM x t sp) 0 (labF t st))) with
 | none =>
  rw [hf] at h;simp only at h ⊢;exfalso
  have hm:Y9 r (sp.length+1)∈Y1 r (sp.length+1):=by
   grind [Y1,Y9,fromB_next]
  have h2:Vi (XM x t sp) 0 (labF t st) (Y9 r (sp.length+1))=some (Xu x t sp 0 (labF t st) (Y9 r (sp.length+1))).1:=by rw [VJ,if_pos h]
  have h3:(Xu x t sp 0 (labF t st) (Y9 r (sp.length+1))).1∈(Y1 r (sp.length+1)).filterMap (Vi (XM x t sp) 0 (labF t st)):=By.2 ⟨_,hm,h2⟩;generalize (Y1 r (sp.length+1)).filterMap (Vi (XM x t sp) 0 (labF t st))=l at hf h3
  cases l with
  | nil=>simp at h3
  | cons a l =>
   rw [Vj] at hf;obtain ⟨z,e,_⟩:=QF Wd l a
   grind
 | some L =>
  simp only;have hm:=bestF_len.fmL_mem _ _ hf;obtain ⟨bs,hbs,hrun⟩:=By.1 hm;rw [VJ] at hrun
  split at hrun
  ·rename_i h5;simp at hrun;subst hrun;obtain ⟨q,hq,rfl⟩:=XD.1 hbs;have hql:=bestF_len.fromB_len _ _ hq
   grind
  ·cases hrun
structure Sr where
 rdy:Int
 drv:Int
 deriving Inhabited,DecidableEq
def VV (l:List Sr) (s:Sr):List Sr:=if s∈l then l else l++ [s]
def Vc (t:Typ) (l:List Sr) (d v:Int):List Sr:=VV (VV l ⟨d,v⟩) ⟨d+t.rest,0⟩
def QT (x:Inst) (t:Typ) (from':Int) (stop:Stp) (out:List Sr) (a:Sr):List Sr :=
 if ¬(WB x.net t.prof from' stop.place a.rdy).2.2=0\/t.drive<a.drv+(WB x.net t.prof from' stop.place a.rdy).1-a.rdy then out
 else if stop.cls<max (WB x.net t.prof from' stop.place a.rdy).1 stop.opn then out
 else Vc t out (max (WB x.net t.prof from' stop.place a.rdy).1 stop.opn+stop.serv) (a.drv+(WB x.net t.prof from' stop.place a.rdy).1-a.rdy)
def CQ (x:Inst) (t:Typ) (from':Int) (st:List Sr) (stop:Stp):List Sr:=st.foldl (QT x t from' stop) []
theorem Sa {l:List Sr} {s a:Sr} :a∈VV l s↔a∈l\/a=s:=by
 grind [VV]
theorem WO {t:Typ} {l:List Sr} {d v:Int} {a:Sr} :a∈Vc t l d v↔a∈l\/a=⟨d,v⟩\/a=⟨d+t.rest,0⟩:=by
 simp [Vc,Sa,or_assoc]
theorem OR {n:Nat} (h:n<10):dec n= [UInt8.ofNat (48+n)]:=by rw [dec,dif_pos h]
theorem lU {n:Nat} (h:10<=n) (h2:n<100):dec n= [UInt8.ofNat (48+n / 10),UInt8.ofNat (48+n%10)]:=by
 rw [dec,dif_neg Za,OR Za];rfl
theorem IF {s:List UInt8} {k k':IntKind} {a b:Int} (h:0<=a/\a<=b/\b<=(s.length:Int)):Hd (some .string) s (.p (.int k a)) (.p (.int k' b))=some (.p (.str ((s.take b.toNat).drop a.toNat))):=by
 simp_all [Hd]
def digT : List UInt8:=(List.range 36).map fun i=>UInt8.ofNat (if i<10 then 48+i else 87+i)
def smalT : List UInt8:=(List.range 100).flatMap fun i=> [UInt8.ofNat (48+i / 10),UInt8.ofNat (48+i%10)]
theorem lV : ∀n,n<10->(digT.take (n+1)).drop n= [UInt8.ofNat (48+n)]:=by decide
theorem iF : ∀n,n<100->(smalT.take (2*n+2)).drop (2*n)= [UInt8.ofNat (48+n / 10),UInt8.ofNat (48+n%10)]:=by decide+kernel
theorem oP (n:Nat) (hn:n<100):PC 331 [.p (.int .i64 (n:Int))] (.str (dec n)):=by
 refine Zc Tryz.func331 rfl Za0 ?_;simp (disch:=omega) only [Tryz.f331,go_sem,seval];refine cD ?_ ?_<;>intro h<;>simp (disch:=omega) only [Sh.out h,go_sem,seval]
 ·rw [OR Za,IF (by simp;omega)]
  have e1:((n:Int)+1).toNat=n+1:=Za
  have e2:((n:Int)).toNat=n:=Za
  rw [e1,e2];refine (XA (fun z=>AN (some (V.p (PV.str z))) _) (lV n Za)).mpr ?_;simp (disch:=omega) only [go_sem,seval]
 ·rw [lU Za hn,IF (by simp;omega)]
  have e1:((n:Int)*2+2).toNat=2*n+2:=Za
  have e2:((n:Int)*2).toNat=2*n:=Za
  rw [e1,e2];refine (XA (fun z=>AN (some (V.p (PV.str z))) _) (iF n Za)).mpr ?_;simp (disch:=omega) only [go_sem,seval]
theorem cN (n:Nat) (hn:n<100):PC 330 [.p (.int .i64 (n:Int)),.p (.int .i64 10)] (.str (dec n)):=by
 refine Zc Tryz.func330 rfl ZaZ ?_
 have h0:(0:Int)<=(n:Int):=Za
 have h1:(n:Int)<100:=Za
 simp (disch:=omega) only [Tryz.f330,h0,h1,go_sem,seval];refine (oP n hn).use ?_;simp (disch:=omega) only [go_sem,seval]
theorem mR (n:Nat) (hn:n<100):PC 329 [.p (.int .i64 (n:Int))] (.str (dec n)):=by
 refine Zc Tryz.func329 rfl ZaY ?_;simp (disch:=omega) only [Tryz.f329,go_sem,seval];refine (cN n hn).use ?_;simp (disch:=omega) only [go_sem,seval]
theorem Za1 (n:Nat) (hn:n<100):PC 328 [.p (.int .i64 (n:Int))] (.str (dec n)):=by
 refine Zc Tryz.func328 rfl ZaX ?_;simp (disch:=omega) only [Tryz.f328,go_sem,seval];refine (mR n hn).use ?_;simp (disch:=omega) only [go_sem,seval]
theorem MF (n a b:Int):PC 321 [.p (.int .i64 n),.p (.int .i64 a),.p (.int .i64 b)] (.bool (decide (a<=n)&&decide (n<=b))):=by
 refine Zc Tryz.func321 rfl ZaQ ?_;simp (disch:=omega) only [Tryz.f321,go_sem,seval]
 repeat' (first | (refine gT ?_ ?_<;>intro hq<;>simp (disch:=omega) only [Sh.out hq,go_sem,seval,↓reduceIte]) | (refine Uj (fun hq=> ?_) (fun hq=> ?_)<;>(try simp only [Zl,XJ,Xy] at hq)<;>simp (disch:=omega) only [Sh.out hq,go_sem,seval]) | (refine QY (fun hq=> ?_) (fun hq=> ?_)<;>(try simp only [Zl,XJ,Xy] at hq)<;>simp (disch:=omega) only [Sh.out hq,go_sem,seval]))
 all_goals (simp;first | done | omega)
theorem fO (l:List Pt) (c:Bool) (hl:WE l):PC 325 [.p (.list c (l.map F3))] (.list true []):=by
 obtain ⟨⟨hl1,hl2⟩,hpt⟩:=hl;refine Zc Tryz.func325 rfl ZaU ?_
 have e1: ¬(l.length:Int)=0:=Za
 have e2: ¬(16:Int)<(l.length:Int):=Za
 simp (disch:=omega) only [Tryz.f325,e1,e2,go_sem,seval];refine Zk [0,19,20] (fun k:Nat=> [(3,.p (.list true [])),(21,.p (.int .i64 k))]) (fun _=> []) (fun k=>k<=l.length) (fun k=>l.length-k) 0 Zb (Weak.mk ?_) ?_
 ·simp (disch:=omega) only [go_sem,seval,↓reduceIte]
 ·intro k hk;refine Wp ?_;refine cD ?_ ?_<;>intro h<;>simp (disch:=omega) only [Sh.out h,go_sem,seval,↓reduceIte]
  ·have hk2:k<l.length:=Za
   obtain ⟨⟨p1,p2,p3,p4⟩,q⟩:=hpt k hk2;refine (Za1 k Za).use (Wp ?_);refine (MF (nth l k).t 0 4096).use (Wp ?_);simp (disch:=omega) only [p1,p2,go_sem,seval];refine gF ?_ ?_<;>intro h3<;>simp (disch:=omega) only [Sh.out h3,go_sem,seval,↓reduceIte]
   ·omega
   ·refine cD ?_ ?_<;>intro h4<;>simp (disch:=omega) only [Sh.out h4,go_sem,seval,↓reduceIte]
    ·omega
    ·refine XH (Wp ?_);refine gT ?_ ?_<;>intro h5<;>simp (disch:=omega) only [Sh.out h5,go_sem,seval,↓reduceIte]
     ·obtain ⟨r1,r2⟩:=q Za;refine gF ?_ ?_<;>intro h6<;>simp (disch:=omega) only [Sh.out h6,go_sem,seval,↓reduceIte]
      ·omega
      ·refine cD ?_ ?_<;>intro h7<;>simp (disch:=omega) only [Sh.out h7,go_sem,seval,↓reduceIte]
       ·omega
       ·exact ⟨k+1,Za,Za,wk⟩
     ·exact ⟨k+1,Za,Za,wk⟩
theorem OL (p:Pt) (t:Int) (h:0<=p.t/\p.t<=4096) (ht:0<=t/\t<=1073741824):PC 327 [.p (F3 p),.p (.int .i64 t)] (.int .i64 (p.t-t)):=by
 refine Zc Tryz.func327 rfl ZaW ?_;simp (disch:=omega) only [Tryz.f327,go_sem,seval,↓reduceIte]
theorem oH (l:List Pt) (c:Bool) (hl:WE l):PC 322 [.p (.list c (l.map F3))] (.bool true):=by
 refine Zc Tryz.func322 rfl ZaR ?_;simp (disch:=omega) only [Tryz.f322,go_sem,seval];refine (fO l c hl).use ?_;simp (disch:=omega) only [go_sem,seval]
structure PosT (l:List Pt) (t:Int) (i:Nat):Prop where
 le:i<=l.length
 lo: ∀j,j<i->(nth l j).t<t
 hi: ∀j,i<=j->j<l.length->t<=(nth l j).t
theorem Zf9 (l:List Pt) (c:Bool) (t:Int) (i:Nat) (hl:WE l) (ht:0<=t/\t<=1073741824) (hi:PosT l t i):PT 326 [.p (.list c (l.map F3)),.p (.int .i64 t),.fn (.func 327) [] []] [.p (.int .i64 (i:Int)),.p (.bool (decide (i<l.length)&&decide ((nth l i).t=t)))]:=by
 obtain ⟨⟨hl1,hl2⟩,hpt⟩:=hl;obtain ⟨hi1,hi2,hi3⟩:=hi;refine Zf [] Tryz.func326 rfl ZaV ?_;simp (disch:=omega) only [Tryz.f326,go_sem,seval];refine Zk [0,1,2,8] (fun q:Nat×Nat=> [(9,.p (.int .i64 q.1)),(10,.p (.int .i64 q.2))]) (fun _=> []) (fun q=>q.1<=i/\i<=q.2/\q.2<=l.length) (fun q=>q.2-q.1) (0,l.length) (by simp;omega) (Weak.mk ?_) ?_
 ·simp (disch:=omega) only [go_sem,seval,↓reduceIte]
 ·rintro ⟨a,b⟩ ⟨h1,h2,h3⟩;simp only at h1 h2 h3;refine Wp ?_;refine cD ?_ ?_<;>intro h<;>simp (disch:=omega) only [Sh.out h,go_sem,seval,↓reduceIte]
  ·have hm:(a+b) / 2<l.length:=Za
   obtain ⟨⟨p1,p2,p3,p4⟩,q⟩:=hpt _ hm
   have hs:((a:Int)+(b:Int)).fdiv (2^min 1 64)=(((a+b) / 2:Nat):Int):=by
    grind
   have em:((((a+b) / 2:Nat)):Int).toNat=(a+b) / 2:=Za
   have hnb:((a+b) / 2<i)↔(nth l ((a+b) / 2)).t-t<0:=by
    grind
   rw [hs];refine Wp ?_;refine (OL (nth l ((a+b) / 2)) t ⟨p1,p2⟩ ht).use (Wp ?_);refine cD ?_ ?_<;>intro h4<;>simp (disch:=omega) only [Sh.out h4,go_sem,seval,↓reduceIte]
   ·exact ⟨((a+b) / 2+1,b),⟨Za,h2,h3⟩,Za,wk⟩
   ·exact ⟨(a,(a+b) / 2),⟨h1,Za,Za⟩,Za,wk⟩
  ·have:a=i:=Za
   subst this;refine gT ?_ ?_<;>intro h4<;>simp (disch:=omega) only [Sh.out h4,go_sem,seval,↓reduceIte]
   ·have hm:a<l.length:=Za
    obtain ⟨⟨p1,p2,p3,p4⟩,q⟩:=hpt _ hm;refine (OL (nth l a) t ⟨p1,p2⟩ ht).use (Wp ?_);have e5:((nth l a).t-t=0)=((nth l a).t=t):=propext Za;exact we (by simp (disch:=omega) only [e5,hm,go_sem,seval])
   ·have hm: ¬a<l.length:=Za
    exact we (by simp (disch:=omega) only [hm,go_sem,seval])
theorem BQ {l:List Pt} (hl:WE l) {k:Nat} (hk:k<l.length): ∀j,j<k->(nth l j).t<(nth l k).t:=by
 obtain ⟨_,hpt⟩:=hl
 induction k with
 | zero=>omega
 | succ k ih =>
  intro j hj;obtain ⟨_,q⟩:=hpt (k+1) hk
  grind
theorem nV {l:List Pt} (hl:WE l) (t:Int): ∃i,PosT l t i:=by
 have: ∀n,n<=l.length-> ∃i,i<=n/\(∀j,j<i->(nth l j).t<t)/\(i<n->t<=(nth l i).t):=by
  intro n
  induction n with
  | zero=>simp
  | succ n ih =>
   grind
 obtain ⟨i,h1,h2,h3⟩:=this l.length (Xg _);refine ⟨i,h1,h2,fun j hj hjl=> ?_⟩;rcases Nat.lt_or_eq_of_le hj with h | h
 ·have:=BQ hl hjl i h;omega
 grind
theorem kD {l:List Pt} {t:Int} {i:Nat} (hl:WE l) (h:PosT l t i) (hi:i<l.length) (e:(nth l i).t=t):Q2 l t=(nth l i).a:=by
 by_cases g:i+1<l.length
 ·have m:=BQ hl g i Za;rw [Hc g (fun j hj=> ?_) (by grind [Qv]),FK]
  ·rw [e,Int.sub_self,Int.zero_mul,KZ];rw [Int.ediv_eq_zero_of_lt Za Za];omega
  ·have:(nth l (j+1)).t<=t:=by
    rcases Nat.lt_or_eq_of_le (show j+1<=i by omega) with h1 | h1
    ·have:=h.lo _ h1;omega
    grind
   simp [Qv];omega
 ·have hi1:i=l.length-1:=Za
  rw [Di (fun j hj=> ?_)]
  ·split
   ·grind
   ·have:i=0:=by
     by_cases g2:i=0
     ·exact g2
     ·have:=h.lo 0 Za;omega
    grind
  ·have:(nth l (j+1)).t<=t:=by
    rcases Nat.lt_or_eq_of_le (show j+1<=i by omega) with h1 | h1
    ·have:=h.lo _ h1;omega
    grind
   simp [Qv];omega
theorem kG {l:List Pt} {t:Int} (hl:WE l) (h:PosT l t 0) (e: ¬(nth l 0).t=t):Q2 l t=t+(nth l 0).a-(nth l 0).t:=by
 have h0:=h.hi 0 (Xg _) hl.1.1;rw [Di (fun j hj=> ?_),if_neg Za]
 have:t<(nth l j).t:=by
  by_cases g:j=0
  ·grind
  ·have:=BQ hl (show j<l.length by omega) 0 Za;omega
 simp [Qv];omega
theorem kF {l:List Pt} {t:Int} (h:PosT l t l.length) (hl:0<l.length):Q2 l t=t+(nth l (l.length-1)).a-(nth l (l.length-1)).t:=by
 rw [Di (fun j hj=> ?_),if_pos (h.lo 0 hl)];have:=h.lo (j+1) hj;simp [Qv];omega
theorem T4 {l:List Pt} {t:Int} {i:Nat} (h:PosT l t i) (h0:0<i) (hi:i<l.length) (e: ¬(nth l i).t=t):Q2 l t=FK (nth l (i-1)) (nth l i) t:=by
 have e1:i-1+1=i:=Za
 have h1:=h.lo (i-1) Za;have h2:=h.hi i (Xg _) hi;have:=Hc (l:=l) (t:=t) (i:=i-1) Za (fun j hj=>by have:=h.lo (j+1) Za;simp [Qv];omega) (by grind [Qv]);rw [this,e1]
theorem GI {p q:Pt} {t:Int} (h1:p.t<=t) (h2:t<q.t) (hp:0<=p.t) (hq:q.t<=4096) (ha:p.a<=q.a) (hpa:0<=p.a) (hqa:q.a<=8192) :
  IntKind.i64.wrap (p.a+IntKind.i64.wrap ((IntKind.i64.wrap (IntKind.i64.wrap (IntKind.i64.wrap ((t-p.t)*(q.a-p.a))+(q.t-p.t))-1)).tdiv (q.t-p.t)))=FK p q t:=by
 have hm:=E2 h1 h2 hp hq ha hpa hqa;unfold FK;generalize hM:(t-p.t)*(q.a-p.a)=m at hm
 have hd:0<=(m+(q.t-p.t)-1) / (q.t-p.t)/\(m+(q.t-p.t)-1) / (q.t-p.t)<=m+(q.t-p.t)-1:=by
  refine ⟨Int.ediv_nonneg Za Za,Int.ediv_le_self _ Za⟩
 rw [IntWalk.i64_in m Za,IntWalk.i64_in (m+(q.t-p.t)) Za,IntWalk.i64_in (m+(q.t-p.t)-1) Za,Int.tdiv_eq_ediv_of_nonneg Za,IntWalk.i64_in ((m+(q.t-p.t)-1) / (q.t-p.t)) Za,IntWalk.i64_in _ Za]
 congr 2
 omega
theorem NO (l:List Pt) (c:Bool) (t:Int) (hl:WE l) (ht:0<=t/\t<=1073741824):PC 323 [.p (.list c (l.map F3)),.p (.int .i64 t)] (.int .i64 (Q2 l t)):=by
 obtain ⟨i,hi⟩:=nV hl t;have hl':=hl;obtain ⟨⟨hl1,hl2⟩,hpt⟩:=hl';refine Zc Tryz.func323 rfl ZaS ?_;simp (disch:=omega) only [Tryz.f323,go_sem,seval];refine X2 (Zf9 l c t i hl ht hi) (Wp ?_);obtain ⟨i1,i2,i3⟩:=id hi;refine cD ?_ ?_<;>intro h<;>simp (disch:=omega) only [Sh.out h,go_sem,seval,↓reduceIte]
 ·grind [kD]
 ·refine cD ?_ ?_<;>intro h0<;>simp (disch:=omega) only [Sh.out h0,go_sem,seval]
  ·have:i=0:=Za
   subst this;obtain ⟨p1,p2⟩:=hpt 0 Za;rw [kG hl hi (fun g=>h ⟨Za,g⟩)];refine XH ?_;simp (disch:=omega) only [go_sem,seval,↓reduceIte]
  ·refine cD ?_ ?_<;>intro h1<;>simp (disch:=omega) only [Sh.out h1,go_sem,seval]
   ·have:i=l.length:=Za
    subst this;obtain ⟨p1,p2⟩:=hpt (l.length-1) Za;rw [kF hi Za]
    have e1:((l.length:Int)-1).toNat=l.length-1:=Za
    refine XH ?_;simp (disch:=omega) only [go_sem,seval,↓reduceIte]
   ·have g1:i<l.length:=Za
    rw [T4 hi Za g1 (fun g=>h ⟨g1,g⟩)];have g2:=BQ hl g1 (i-1) Za;obtain ⟨p1,p2⟩:=hpt i g1;obtain ⟨p3,p4⟩:=hpt (i-1) Za
    have e1:((i:Int)-1).toNat=i-1:=Za
    have q1:=i2 (i-1) Za;have q2:=i3 i (Xg _) g1;have q3: ¬(nth l i).t=t:=fun g=>h ⟨g1,g⟩;have q4:=p2 Za;refine Xe [9,10,11] 12 mixed Zd Zd Zd Zb ?_;simp (disch:=omega) only [e1,go_sem,seval];refine Gk 9 10 _ _ _ _ Zd (by refine Wp ?_;exact ⟨rfl,rfl⟩) (by refine Wp ?_;exact ⟨rfl,rfl⟩) ?_ ?_
    ·refine ZJ 10 _ _ Zd (by refine Wp ?_;exact ⟨rfl,rfl⟩) (ZJ 11 _ _ Zd (by refine Wp ?_;exact ⟨rfl,rfl⟩) (Yk ?_));refine Wp ?_;refine XH (Wp ?_);exact XA (fun z=>V.p (PV.int IntKind.i64 z)) (GI Za Za Za Za Za Za Za)
    ·refine ZJ 9 _ _ Zd (by refine Wp ?_;exact ⟨rfl,rfl⟩) (ZJ 11 _ _ Zd (by refine Wp ?_;exact ⟨rfl,rfl⟩) (Yk ?_));refine Wp ?_;refine XH (Wp ?_);exact XA (fun z=>V.p (PV.int IntKind.i64 z)) (GI Za Za Za Za Za Za Za)
theorem SB (l:List Pt) (c:Bool) (t:Int) (hl:WE l) (ht:0<=t/\t<=1073741824):PC 317 [.p (.list c (l.map F3)),.p (.int .i64 t)] (.int .i64 (Q2 l t)):=by
 refine Zc Tryz.func317 rfl ZaM ?_;simp (disch:=omega) only [Tryz.f317,go_sem,seval];refine (MF t 0 1073741824).use (Wp ?_);simp (disch:=omega) only [ht,go_sem,seval];refine (oH l c hl).use (Wp ?_);refine (NO l c t hl ht).use ?_;simp (disch:=omega) only [go_sem,seval]
theorem Zgx (n:Net) (p:Int) (hn:n.places.length<=1048576):PC 301 [.p (Ba n),.p (.int .i64 p)] (.bool (Kg n p)):=by
 refine Zc Tryz.func301 rfl Zax ?_;simp (disch:=omega) only [Tryz.f301,go_sem,seval];refine gT ?_ ?_<;>intro h<;>simp (disch:=omega) only [Sh.out h,go_sem,seval,↓reduceIte]
 ·simp [Kg,h]
 ·simp [Kg,h]
theorem pI (a:Arc):PC 316 [.p (V0 a)] (.agg [.int .i64 a.src,.int .i64 a.dst,.int .i64 a.prof]):=by
 refine Zc Tryz.func316 rfl ZaL ?_;simp (disch:=omega) only [Tryz.f316,go_sem,seval,↓reduceIte]
theorem nO (a:Arc) (t:Int) (ha:kC a) (ht:0<=t/\t<=1073741824):PC 303 [.p (V0 a),.p (.int .i64 t)] (.int .i64 (Hb a t)):=by
 obtain ⟨h1,h2,h3⟩:=ha;have hr:=DV h1 ht;have hs:=QN (t:=t) (fun p hp=>(h3 p hp).2.2);refine Zc Tryz.func303 rfl Zaz ?_;simp (disch:=omega) only [Tryz.f303,go_sem,seval];refine (SB a.travel a.travel_c t h1 ht).use (Wp ?_);refine Zk [1,13,14] (fun k:Nat=> [(5,.p (.int .i64 (Q2 a.travel t+JJ a.slow t k))),(15,.p (.int .i64 k))]) (fun _=> [WI a]) (fun k=>k<=a.slow.length) (fun k=>a.slow.length-k) 0 Zb (Weak.mk ?_) ?_
 ·simp (disch:=omega) only [WI,JJ,Qr,go_sem,seval];simp
 ·intro k hk;have hsk:=hs k hk;simp (disch:=omega) only [WI,go_sem,seval];refine cD ?_ ?_<;>intro h<;>simp (disch:=omega) only [Sh.out h,go_sem,seval,↓reduceIte]
  ·have hk2:k<a.slow.length:=Za
   have hp:=h3 _ (ZD hk2);have hsn:=AR (t:=t) hk2;refine ZP ?_ ?_<;>intro h4
   ·rw [if_pos h4] at hsn;exact ⟨k+1,Za,Za,Weak.mk (by simp (disch:=omega) only [hsn,Int.add_assoc,go_sem,seval])⟩
   ·rw [if_neg h4] at hsn;exact ⟨k+1,Za,Za,Weak.mk (by simp (disch:=omega) only [hsn,go_sem,seval])⟩
  grind [Hb]
theorem nR (n:Net) (pr f t:Int) (hn:n.arcs.length<=1048576):PT 302 [.p (Ba n),.p (.int .i64 pr),.p (.int .i64 f),.p (.int .i64 t)] [.p (V0 (Ws n pr f t).1),.p (.bool (Ws n pr f t).2)]:=by
 refine Zf [] Tryz.func302 rfl Zay ?_;simp (disch:=omega) only [Tryz.f302,go_sem,seval];refine Zk [8,10,18,19] (fun k:Nat=> [(20,.p (.int .i64 k))]) (fun _=>Z1 n++ [WI Vx,.cells [.p (.int .i64 f),.p (.int .i64 t),.p (.int .i64 pr)]]) (fun k=>k<=n.arcs.length/\ ∀j,j<k->W1 pr f t (nth n.arcs j)=false) (fun k=>n.arcs.length-k) 0 Zb (Weak.mk ?_) ?_
 ·simp (disch:=omega) only [Z1,WI,Vx,Zo,ZY,Xh,go_sem,seval]
 ·rintro k ⟨hk,hno⟩;simp (disch:=omega) only [Z1,WI,Vx,Zo,ZY,Xh,go_sem,seval];refine cD ?_ ?_<;>intro h<;>simp (disch:=omega) only [Sh.out h,go_sem,seval,↓reduceIte]
  ·have hk2:k<n.arcs.length:=Za
   have nx:W1 pr f t (nth n.arcs k)=false-> ∀j,j<k+1->W1 pr f t (nth n.arcs j)=false:=fun h=>Zm.2 ⟨hno,h⟩;refine XH (Wp ?_);refine Zp (pI (nth n.arcs k)) (Wp ?_);refine ZP ?_ ?_<;>intro h1
   ·have e:=I8 hk2 hno (by simp [W1,h1]);obtain ⟨rfl,rfl,rfl⟩:=h1;rw [e];exact we
   ·have e2:W1 pr f t (nth n.arcs k)=false:=by
     simp_all [W1]
    exact ⟨k+1,⟨Za,nx e2⟩,Za,wk⟩
  ·have hkn:k=n.arcs.length:=Za
   subst hkn;rw [I9 hno];exact we (by simp (disch:=omega) only [Vx,Zo,go_sem,seval])
theorem sH (n:Net) (pr f t τ:Int) (hn:netR n) (hτ:0<=τ/\τ<=1073741824):PT 278 [.p (Ba n),.p (.int .i64 pr),.p (.int .i64 f),.p (.int .i64 t),.p (.int .i64 τ)] [.p (.int .i64 (WB n pr f t τ).1),.p (.int .i64 (WB n pr f t τ).2.1),.p (.int .i64 (WB n pr f t τ).2.2)]:=by
 refine Zf [] Tryz.func278 rfl Zad ?_;simp (disch:=omega) only [Tryz.f278,go_sem,seval];refine (Zgx n f hn.1).use (Wp ?_);refine gF ?_ ?_<;>intro h1<;>simp (disch:=omega) only [Sh.out h1,go_sem,seval,↓reduceIte]
 ·have e:WB n pr f t τ=(0,0,11):=by grind [WB]
  rw [e];exact we
 ·simp only [Xn] at h1;refine (Zgx n t hn.1).use (Wp ?_);refine cD ?_ ?_<;>intro h2<;>simp (disch:=omega) only [Sh.out h2,go_sem,seval]
  ·have e:WB n pr f t τ=(0,0,11):=by grind [WB]
   rw [e];exact we
  ·simp only [Xn] at h2;refine cD ?_ ?_<;>intro h3<;>simp (disch:=omega) only [Sh.out h3,go_sem,seval,↓reduceIte]
   ·have e:WB n pr f t τ=(τ,0,0):=by grind [WB]
    rw [e];exact we
   ·have cf:=nR n pr f t hn.2.1;have hm:= @KI n pr f t
    have e0:WB n pr f t τ=if (Ws n pr f t).2=true then (Hb (Ws n pr f t).1 τ,(Ws n pr f t).1.miles,0) else (0,0,12):=by grind [WB]
    rw [e0];generalize Ws n pr f t=A at cf hm ⊢;obtain ⟨a,b⟩:=A;simp only at cf hm ⊢;refine X2 cf (Wp ?_);refine cD ?_ ?_<;>intro h4<;>simp (disch:=omega) only [Sh.out h4,go_sem,seval]
    ·have hb:b=false:=by grind
     subst hb;exact we (by simp (disch:=omega) only [go_sem,seval,↓reduceIte])
    ·have hb:b=true:=by grind
     subst hb;refine XH (Wp ?_);refine Zp (nO a τ (hn.2.2 a (hm rfl)) hτ) (Wp ?_);exact we
def DZ (s:Stp) (a:Int):Int×Int:=if max a s.opn>s.cls then (0,14) else (max a s.opn,0)
theorem OG (s:Stp) (a:Int):PT 304 [.p (Ea s),.p (.int .i64 a)] [.p (.int .i64 (DZ s a).1),.p (.int .i64 (DZ s a).2)]:=by
 refine Zf [] Tryz.func304 rfl ZaA ?_;simp (disch:=omega) only [Tryz.f304,go_sem,seval];refine cD ?_ ?_<;>intro h<;>simp (disch:=omega) only [Sh.out h,go_sem,seval]
 ·have e:DZ s a=(0,14):=by simp_all [DZ]
  rw [e];exact we
 ·have e:DZ s a=(max a s.opn,0):=by simp_all [DZ]
  rw [e];exact we
theorem fU (l:List Ord) (c:Bool) (p:Int) (hl:l.length<=1048576):PC 236 [.p (.list c (l.map eOrd)),.p (.int .i64 p)] (.bool (decide (0<=p)&&decide (p<(l.length:Int)))):=by
 refine Zc Tryz.func236 rfl dJ ?_;simp (disch:=omega) only [Tryz.f236,go_sem,seval];refine gT ?_ ?_<;>intro h<;>simp (disch:=omega) only [Sh.out h,go_sem,seval,↓reduceIte]
 all_goals simp [h]
theorem Px (x:Inst) (v:Vis) (ho:x.orders.length<=1048576) (hv:Lp x v=true) (hp:0<=(XI x v).place):PT 241 [.p (.list x.orders_c (x.orders.map eOrd)),.p (Xf v)] [.p (Ea (XI x v)),.p (.int .i64 0)]:=by
 refine Zf [] Tryz.func241 rfl zB ?_;simp (disch:=omega) only [Tryz.f241,go_sem,seval];have hv':=hv;rw [Lp] at hv';have ct:=fU x.orders x.orders_c v.order ho;rw [hv'] at ct;refine ct.use ?_;simp only [Zt,Zl] at hv';obtain ⟨h1,h2⟩:=hv'
 have hi:v.order.toNat<x.orders.length:=Za
 refine Wp ?_;refine cD ?_ ?_<;>intro hd<;>simp (disch:=omega) only [Sh.out hd,go_sem,seval,↓reduceIte]
 ·have e:XI x v=(nth x.orders v.order.toNat).drp:=by simp [XI,hd]
  rw [e] at hp ⊢
  have e3: ¬(nth x.orders v.order.toNat).drp.place<0:=Za
  simp (disch:=omega) only [e3,go_sem,seval];exact we
 ·have e:XI x v=(nth x.orders v.order.toNat).pick:=by simp [XI,hd]
  rw [e] at hp ⊢
  have e3: ¬(nth x.orders v.order.toNat).pick.place<0:=Za
  simp (disch:=omega) only [e3,go_sem,seval];exact we
theorem nQ (l:List Typ) (c:Bool) (ht:l.length<=1048576):PC 291 [.p (.list c (l.map V1))] (.int .i64 (dimsOf l)):=by
 refine Zc Tryz.func291 rfl Zan ?_;simp (disch:=omega) only [Tryz.f291,go_sem,seval];refine cD ?_ ?_<;>intro h1<;>simp (disch:=omega) only [Sh.out h1,go_sem,seval,↓reduceIte]
 ·grind [dimsOf]
 simp_all [dimsOf]
theorem nS (a b:List Int) (c d:Bool) (ha:a.length<=1048576) (hb:b.length<=1048576):PC 268 [.p (.list c (a.map eI)),.p (.list d (b.map eI))] (.bool (UX a b)):=by
 refine Zc Tryz.func268 rfl zU ?_;simp (disch:=omega) only [Tryz.f268,go_sem,seval];refine cD ?_ ?_<;>intro h1<;>simp (disch:=omega) only [Sh.out h1,go_sem,seval]
 ·grind [UX]
 ·have h1':a.length=b.length:=Za
  refine Zk [1,12,13] (fun k:Nat=> [(14,.p (.int .i64 k))]) (fun _=> []) (fun k=>k<=a.length/\ ∀j,j<k->nth a j<=nth b j) (fun k=>a.length-k) 0 Zb (Weak.mk ?_) ?_
  ·simp (disch:=omega) only [go_sem,seval]
  ·rintro k ⟨hk,hno⟩;refine Wp ?_;refine cD ?_ ?_<;>intro h2<;>simp (disch:=omega) only [Sh.out h2,go_sem,seval,↓reduceIte]
   ·have hk2:k<a.length:=Za
    refine ZP ?_ ?_<;>intro h3
    ·grind [UX]
    ·exact ⟨k+1,⟨Za,Zm.2 ⟨hno,Za⟩⟩,Za,wk⟩
   ·have hkl:k=a.length:=Za
    simp_all [UX]
theorem nN (t:Typ) (s:Int) (h1:t.skills<9223372036854775808) (h2:s<9223372036854775808):PC 264 [.p (V1 t),.p (.int .i64 s)] (.bool (Wz t s)):=by
 refine Zc Tryz.func264 rfl zQ ?_;simp (disch:=omega) only [Tryz.f264,go_sem,seval];refine gT ?_ ?_<;>intro c1<;>simp (disch:=omega) only [Sh.out c1,go_sem,seval,↓reduceIte]
 ·refine gT ?_ ?_<;>intro c2<;>simp (disch:=omega) only [Sh.out c2,go_sem,seval,↓reduceIte]
  ·obtain ⟨M,hM⟩: ∃M:Nat,t.skills=(M:Int):=⟨t.skills.toNat,Za⟩;obtain ⟨S,rfl⟩: ∃S:Nat,s=(S:Int):=⟨s.toNat,Za⟩;have hb:=CV (S:=S) (M:=M) Za
   have e:Wz t (S:Int)=(List.range 63).all fun i=> !S.testBit i||M.testBit i:=by
    simp_all [Wz]
   have hd:decide (IntKind.i64.wrap ((BitVec.ofInt 64 (S:Int)&&& ~~~BitVec.ofInt 64 (M:Int)).toNat:Int)=0)=((List.range 63).all fun i=> !S.testBit i||M.testBit i):=by
    grind
   rw [e,hM];exact XA (fun b=>V.p (PV.bool b)) hd
  grind [Wz]
 grind [Wz]
theorem Zbs (a b:Int) (h: -1073741824<=a/\a<=1073741824/\ -1073741824<=b/\b<=1073741824):PC 310 [.p (.int .i64 a),.p (.int .i64 b)] (.int .i64 (a+b)):=by
 refine Zc Tryz.func310 rfl ZaF ?_;simp (disch:=omega) only [Tryz.f310,go_sem,seval]
theorem nA (a b:Int) (h: -1073741824<=a/\a<=1073741824/\ -1073741824<=b/\b<=1073741824):PC 311 [.p (.int .i64 a),.p (.int .i64 b)] (.int .i64 (a-b)):=by
 refine Zc Tryz.func311 rfl ZaG ?_;simp (disch:=omega) only [Tryz.f311,go_sem,seval]
def TA (f:Nat->Int) (n k:Nat):List Int:=(List.range n).map fun j=>if j<k then f j else 0
theorem nB {f:Nat->Int} {n k:Nat} :(TA f n k).length=n:=by simp [TA]
theorem eL {f:Nat->Int} {n:Nat} :TA f n 0=List.replicate n 0:=by
 apply U1 (by simp [TA]);grind [TA]
theorem eK {f:Nat->Int} {n:Nat} :TA f n n=(List.range n).map f:=by
 simp_all [TA]
theorem nC {f:Nat->Int} {n k:Nat} (h:k<n):(TA f n k).set k (f k)=TA f n (k+1):=by
 apply U1 (by simp [TA]);grind [TA]
theorem F2 (a b:List Int) (c d:Bool) (g:FuncId) (f:Int->Int->Int) (hl:a.length=b.length) (ha:a.length<=1048576)
  (hf: ∀j,j<a.length->ACalls Tryz.prog g [.p (.int .i64 (nth a j)),.p (.int .i64 (nth b j))] [] fun x H'=>x= .p (.int .i64 (f (nth a j) (nth b j)))/\H'= []) :
  PT 309 [.p (.list c (a.map eI)),.p (.list d (b.map eI)),.fn (.func g) [] []] [.p (.list false (((List.range a.length).map fun j=>f (nth a j) (nth b j)).map eI)),.p (.int .i64 0)]:=by
 refine Zf [9] Tryz.func309 rfl ZaE ?_;simp (disch:=omega) only [Tryz.f309,go_sem,seval];refine cD ?_ ?_<;>intro h0<;>simp (disch:=omega) only [Sh.out h0,go_sem,seval]
 ·omega
 ·have hz:=eL (f:=fun j=>f (nth a j) (nth b j)) (n:=a.length);have hml:=fun k=>nB (f:=fun j=>f (nth a j) (nth b j)) (n:=a.length) (k:=k);refine Xc [9] [0,1,2,8,19] (fun k:Nat=> [(20,.p (.int .i64 k))]) (fun k=> [.elems 1 ((TA (fun j=>f (nth a j) (nth b j)) a.length k).map eI)]) (fun k=>k<=a.length) (fun k=>a.length-k) 0 Zb (Weak.mk ?_) ?_
  ·simp (disch:=omega) only [hz,go_sem,seval];rw [Bx];rfl
  ·intro k hk;refine Wp ?_;refine cD ?_ ?_<;>intro h1<;>simp (disch:=omega) only [Sh.out h1,go_sem,seval,↓reduceIte]
   ·have hk2:k<a.length:=Za
    have hs:=nC (f:=fun j=>f (nth a j) (nth b j)) (n:=a.length) hk2;have hk3:=hml k;refine Z6 12 mixed Zd Zd ?_;refine Wp ?_;refine Zp (hf k hk2) ?_;refine Wp ?_;simp (disch:=first | omega | (simp only [Zz,ZQ,Zw,Zv,ZE,ZK]<;>omega)) only [go_sem,seval,↓reduceIte];refine ⟨k+1,Za,Za,Weak.mk ?_⟩;simp (disch:=omega) only [<- hs,go_sem,seval];rw [UE];rfl
   ·have hkl:k=a.length:=Za
    subst hkl;rw [<- eK];have hk3:=hml a.length;refine Zr (Weak.fz (o:=0) (by rfl)) ?_;refine Zg [] _ _ _ _ ?_;simp (disch:=omega) only [ZG,Zo,ZC,go_sem,seval];rw [if_pos hk3];exact we
theorem fM (a b:List Int) (c d:Bool) (hl:a.length=b.length) (ha:a.length<=1048576) (h: ∀j,j<a.length-> -1073741824<=nth a j/\nth a j<=1073741824/\ -1073741824<=nth b j/\nth b j<=1073741824):PT 292 [.p (.list c (a.map eI)),.p (.list d (b.map eI))] [.p (.list false ((DL a b).map eI)),.p (.int .i64 0)]:=by
 refine Zf [] Tryz.func292 rfl Zao ?_;simp (disch:=omega) only [Tryz.f292,go_sem,seval];refine X2 (F2 a b c d 310 (fun m n=>m+n) hl ha fun j hj=>Zbs _ _ (h j hj)) ?_;simp (disch:=omega) only [DL,go_sem,seval];exact we
theorem Zbp (a b:List Int) (c d:Bool) (hl:a.length=b.length) (ha:a.length<=1048576) (h: ∀j,j<a.length-> -1073741824<=nth a j/\nth a j<=1073741824/\ -1073741824<=nth b j/\nth b j<=1073741824):PT 293 [.p (.list c (a.map eI)),.p (.list d (b.map eI))] [.p (.list false ((oU a b).map eI)),.p (.int .i64 0)]:=by
 refine Zf [] Tryz.func293 rfl Zap ?_;simp (disch:=omega) only [Tryz.f293,go_sem,seval];refine X2 (F2 a b c d 311 (fun m n=>m-n) hl ha fun j hj=>nA _ _ (h j hj)) ?_;simp (disch:=omega) only [oU,go_sem,seval];exact we
theorem fQ (x:Inst) (r:Rte) (ht:0<=r.typ/\r.typ<(x.types.length:Int)) (hv: ∀v∈r.visits,Lp x v=true) (hl:r.visits.length<=1048576) (hxl:x.types.length<=1048576) (hol:x.orders.length<=1048576)
  (hs:(ZX x r).skills<9223372036854775808) (ho: ∀o∈x.orders,o.skills<9223372036854775808) :
  PC 219 [.p (ZF x),.p (WA r)] (.int .i64 (if (r.visits.any fun v=> !Wz (ZX x r) (nth x.orders v.order.toNat).skills)=true then 18 else 0)):=by
 refine Zc Tryz.func219 rfl yI ?_;simp (disch:=omega) only [Tryz.f219,go_sem,seval];refine Zk [2,3,8,9] (fun k:Nat=> [(10,.p (.int .i64 k))]) (fun _=> [Zj x,.cells [.p (.int .i64 r.typ),.p (.int .i64 r.start),.p (.list r.rests_c (r.rests.map eB)),.p (.list r.visits_c (r.visits.map Xf))]]) (fun k=>k<=r.visits.length/\ ∀j,j<k->Wz (ZX x r) (nth x.orders (nth r.visits j).order.toNat).skills=true) (fun k=>r.visits.length-k) 0 Zb (Weak.mk ?_) ?_
 ·simp (disch:=omega) only [Zj,go_sem,seval]
 ·rintro k ⟨hk,hno⟩;refine Wj ?_;refine cD ?_ ?_<;>intro h1<;>simp (disch:=omega) only [Sh.out h1,go_sem,seval,↓reduceIte]
  ·have hk2:k<r.visits.length:=Za
   have hin:=hv _ (ZD hk2);simp only [Lp,Zt,Zl] at hin;obtain ⟨i1,i2⟩:=hin
   have hi:(nth r.visits k).order.toNat<x.orders.length:=Za
   have ho':=ho _ (ZD hi);refine XH (Wp ?_);refine Zp (nN (ZX x r) (nth x.orders (nth r.visits k).order.toNat).skills Za Za) (Wp ?_);refine ZP ?_ ?_<;>intro h2
   ·have:(r.visits.any fun v=> !Wz (ZX x r) (nth x.orders v.order.toNat).skills)=true:=by
     grind [ZD]
    grind
   ·exact ⟨k+1,⟨Za,Zm.2 ⟨hno,by grind⟩⟩,Za,wk⟩
  ·have: ¬(r.visits.any fun v=> !Wz (ZX x r) (nth x.orders v.order.toNat).skills)=true:=by
    rw [UC];rintro ⟨v,hv,e⟩;obtain ⟨j,hj,rfl⟩:=ZN.1 hv
    grind [Ze]
   grind
def PN (x:Inst) (d:Nat) (ms:List Int) (k:Nat):List Int:=(ms.take k).foldl (fun s i=>if (nth x.orders i.toNat).pick.place<0 then DL s (nth x.orders i.toNat).load else s) (List.replicate d 0)
theorem Mp {x:Inst} {d:Nat} {ms:List Int} {k:Nat} (h:k<ms.length):PN x d ms (k+1)=if (nth x.orders (nth ms k).toNat).pick.place<0 then DL (PN x d ms k) (nth x.orders (nth ms k).toNat).load else PN x d ms k:=by
 grind [PN,Xm,Ze]
theorem PO {x:Inst} {d:Nat} {ms:List Int} (hms: ∀i∈ms,∀j,j<d->0<=nth (nth x.orders i.toNat).load j/\nth (nth x.orders i.toNat).load j<=1000): ∀k,k<=ms.length->(PN x d ms k).length=d/\ ∀j,j<d->0<=nth (PN x d ms k) j/\nth (PN x d ms k) j<=1000*k
 | 0,_=>by
  grind [PN,Ze]
 | k+1,h=>by
  obtain ⟨h1,h2⟩:=PO hms k Za;rw [Mp Za]
  split
  ·refine ⟨by simp [DL,h1],fun j hj=> ?_⟩;have a1:=h2 j hj;have a2:=hms _ (ZD (show k<ms.length by omega)) j hj;rw [DL,Kb Za];omega
  ·exact ⟨h1,fun j hj=>by have:=h2 j hj;omega⟩
theorem oT (x:Inst) (S:Int) (d:Nat) (hd:d<=3) (hol:x.orders.length<=1048576) (hms: ∀i∈XO S 63,0<=i/\i<(x.orders.length:Int)) (hml:(XO S 63).length<=63)
  (hld: ∀o∈x.orders,o.load.length=d/\ ∀n∈o.load,0<=n/\n<=1000) :
  PC 290 [.p (ZF x),.p (.int .i64 S),.p (.int .i64 (d:Int))] (.list false ((PN x d (XO S 63) (XO S 63).length).map eI)):=by
 have hmo: ∀i∈XO S 63,i.toNat<x.orders.length:=fun i hi=>by grind
 have hrg:=PO (x:=x) (d:=d) (ms:=XO S 63) fun i hi j hj=>by
  grind [ZD]
 refine Zc Tryz.func290 rfl Zam ?_;simp (disch:=omega) only [Tryz.f290,go_sem,seval];refine (Cr S).useF (Wp ?_);refine Zr ((Weak.fz (o:=1) (by rfl)).trans (Weak.fz (o:=2) (by rfl))) ?_;simp (disch:=omega) only [ZG,Zo,Xo,ZC,List.length_replicate,eq_self,go_sem,seval]
 have hz:List.replicate d (PV.int .i64 0)=(PN x d (XO S 63) 0).map eI:=by
  show _=(List.replicate d 0).map eI
  rw [Bx];rfl
 refine Zk [3,13,14] (fun k:Nat=> [(7,.p (.list false ((PN x d (XO S 63) k).map eI))),(15,.p (.int .i64 k))]) (fun _=> [Zj x,.dead,.dead]) (fun k=>k<=(XO S 63).length) (fun k=>(XO S 63).length-k) 0 Zb (Weak.mk ?_) ?_
 ·simp (disch:=omega) only [Zj,hz,go_sem,seval]
 ·intro k hk;have hk1:=hrg k hk;have hsn:=fun h=>Mp (x:=x) (d:=d) (ms:=XO S 63) (k:=k) h;refine Wj ?_;refine cD ?_ ?_<;>intro h1<;>simp (disch:=omega) only [Sh.out h1,go_sem,seval,↓reduceIte]
  ·have hk2:k<(XO S 63).length:=Za
   have hm:=hms _ (ZD hk2);have hi:=hmo _ (ZD hk2);have hlo:=hld _ (ZD hi);have hsn:=hsn hk2;refine Wp ?_;refine ZP ?_ ?_<;>intro h2
   ·rw [if_pos h2] at hsn;refine X2 (fM (PN x d (XO S 63) k) (nth x.orders (nth (XO S 63) k).toNat).load false (nth x.orders (nth (XO S 63) k).toNat).load_c Za Za fun j hj=> ?_) ?_
    ·have b1:=hk1.2 j Za;have b2:=hlo.2 _ (ZD (show j<(nth x.orders (nth (XO S 63) k).toNat).load.length by omega));omega
    ·refine Wp ?_;exact ⟨k+1,Za,Za,Weak.mk (by simp (disch:=omega) only [hsn,go_sem,seval])⟩
   ·rw [if_neg h2] at hsn;exact ⟨k+1,Za,Za,Weak.mk (by simp (disch:=omega) only [hsn,go_sem,seval])⟩
  grind
theorem Nr {p:Nat->Bool} {n:Nat} (h: ∀i,n<=i->p i=false): ∀k,n<=k->(List.range k).filter p=(List.range n).filter p:=by
 intro k hk
 induction k with
 | zero=>grind
 | succ k ih =>
  grind [Yu]
theorem Zhj {x:Inst} {l:List Vis} (hi:Inr x l) (hn:x.orders.length<=10):XO ((XP l:Nat):Int) 63=((List.range x.orders.length).filter fun (i:Nat)=>hasO l (i:Int)).map fun (i:Nat)=>(i:Int):=by
 have key: ∀i:Nat,i<=62->sHas ((XP l:Nat):Int) (i:Int)=hasO l (i:Int):=fun i h=>by
  rw [Wh _ _ h,YY,BH,XL]
  constructor
  ·rintro ⟨v,hv,e⟩;exact ⟨v,hv,by have:=hi v hv;omega⟩
  grind
 unfold XO;rw [Bz (q:=fun (i:Nat)=>hasO l (i:Int)) (fun i hm=>key i (by grind)),Nr (n:=x.orders.length) (fun i h=> ?_) 63 Za]
 cases hh:hasO l (i:Int) with
 | false=>rfl
 | true =>
  obtain ⟨v,hv,e⟩:=XL.1 hh;have:=hi v hv;omega
theorem cO {x:Inst} {d:Nat} : ∀(L:List Nat) (g:Nat->Int),(L.map fun (i:Nat)=>(i:Int)).foldl (fun s (i:Int)=>if (nth x.orders i.toNat).pick.place<0 then DL s (nth x.orders i.toNat).load else s) ((List.range d).map g)=(List.range d).map fun j=>g j+(L.map fun i=>if (nth x.orders i).pick.place<0 then nth (nth x.orders i).load j else 0).sum
 | [],g=>Zb
 | i::L,g=>by
  rw [ZG,Yt,X3]
  by_cases h:(nth x.orders i).pick.place<0
  ·have e:DL ((List.range d).map g) (nth x.orders i).load=(List.range d).map fun j=>g j+nth (nth x.orders i).load j:=by
    grind [DL,YX,Kb]
   rw [if_pos h,e,cO L]
   grind
  ·rw [if_neg h,cO L]
   grind
theorem Tb {x:Inst} {l:List Vis} (hi:Inr x l) (hn:x.orders.length<=10):PN x (dimsOf x.types).toNat (XO ((XP l:Nat):Int) 63) (XO ((XP l:Nat):Int) 63).length=Wb x l 0:=by
 rw [PN,Yb,Zhj hi hn];have:=cO (x:=x) (d:=(dimsOf x.types).toNat) ((List.range x.orders.length).filter fun (i:Nat)=>hasO l (i:Int)) fun _=>0
 have e:(List.range (dimsOf x.types).toNat).map (fun _=>(0:Int))=List.replicate (dimsOf x.types).toNat 0:=by
  simp_all [List.map_const']
 rw [e] at this;rw [this,Wb];refine YX fun j _=> ?_;rw [KZ,JA,Dg]
 congr 1
 refine YX fun i _=> ?_
 grind [fC]
theorem iM {x:Inst} {l:List Vis} {n j:Nat} {d:Nat} (hj:j<d) (hld: ∀o∈x.orders,o.load.length=d/\ ∀n∈o.load,0<=n/\n<=1000) (hn:x.orders.length<=10):0<=Dg x l n j/\Dg x l n j<=10000:=by
 have key:=PQ (f:=fun i=>if i<x.orders.length then (if (FE x l n i&&hasO l i)=true then nth (nth x.orders i).load j else 0) else 0) (b:=1000) Za (fun q=>by
  grind [ZD]) x.orders.length
 have e:Dg x l n j=((List.range x.orders.length).map fun i=>if i<x.orders.length then (if (FE x l n i&&hasO l i)=true then nth (nth x.orders i).load j else 0) else 0).sum:=by
  simp_all [Dg,YX]
 omega
theorem TU {x:Inst} {l:List Vis} {n j:Nat} (hj:j<(dimsOf x.types).toNat) (hd:LdOk x):0<=nth (Wb x l n) j/\nth (Wb x l n) j<=10000:=by
 rw [Wb,Kb hj];exact iM hj (fun o ho=>by obtain ⟨h1,h2⟩:=hd.load o ho;grind) hd.ord
def rV {α:Type} (f:α->Bool) (l:List α):Int:=match l.findIdx? f with | some i=>(i:Int) | none=> -1
theorem cW {α:Type} [Inhabited α] {f:α->Bool} {l:List α} {k:Nat} (hk:k<l.length) (h:f (nth l k)=true) (hno: ∀j,j<k->f (nth l j)=false):rV f l=(k:Int):=by
 have:l.findIdx? f=some k:=by
  grind [VO,Ze]
 simp [rV,this]
theorem cY {α:Type} [Inhabited α] {f:α->Bool} {l:List α} (hno: ∀j,j<l.length->f (nth l j)=false):rV f l= -1:=by
 have:l.findIdx? f=none:=by
  rw [List.findIdx?_eq_none_iff];intro x hx;obtain ⟨j,hj,rfl⟩:=ZN.1 hx
  grind [Ze]
 simp [rV,this]
theorem cX {α:Type} {f:α->Bool} {l:List α} :decide (0<=rV f l)=l.any f:=by
 grind [rV]
theorem R5 (l:List (List Int)) (c:Bool) (g:FuncId) (caps:List V) (H:List AM.Obj) (f:List Int->Bool) (hl:l.length<=1048576) (hW:MH H H.length H H) (hc:Xd H.length caps=true)
  (hg: ∀v∈l,ACalls Tryz.prog g (.p (jK v)::caps) H fun x H'=>x= .p (.bool (f v))/\H'=H) :
  ACalls Tryz.prog 294 [.p (.list c (l.map jK)),.fn (.func g) [] caps] H fun x H'=>x= .p (.int .i64 (rV f l))/\H'=H:=by
 refine X6 Tryz.func294 rfl Zaq (Zg [] _ _ _ _ ?_);simp (disch:=omega) only [Tryz.f294,go_sem,seval];refine Zk [0,1,7] (fun k:Nat=> [(8,.p (.int .i64 k))]) (fun _=>H) (fun k=>k<=l.length/\ ∀j,j<k->f (nth l j)=false) (fun k=>l.length-k) 0 Zb (Weak.mk ?_) ?_
 ·simp (disch:=omega) only [hW,hc,go_sem,seval];simp
 ·rintro k ⟨hk,hno⟩;refine Wp ?_;refine cD ?_ ?_<;>intro h<;>simp (disch:=omega) only [Sh.out h,go_sem,seval,↓reduceIte]
  ·have hk2:k<l.length:=Za
   have hgk:=hg (nth l k) (Zq hk2);simp (disch:=omega) only [vM,go_sem,seval] at hgk;refine hgk.useH (Wp ?_);refine cD ?_ ?_<;>intro h2<;>simp (disch:=omega) only [Sh.out h2,go_sem,seval,↓reduceIte]
   ·grind [cW]
   ·have h3:f (nth l k)=false:=Za
    refine ⟨k+1,⟨Za,Zm.2 ⟨hno,h3⟩⟩,Za,Weak.mk ?_⟩;simp (disch:=omega) only [hW,hc,go_sem,seval];simp
  grind [cY]
theorem Hu (l:List (List Int)) (c:Bool) (g:FuncId) (caps:List V) (H:List AM.Obj) (f:List Int->Bool) (hl:l.length<=1048576) (hW:MH H H.length H H) (hc:Xd H.length caps=true)
  (hg: ∀v∈l,ACalls Tryz.prog g (.p (jK v)::caps) H fun x H'=>x= .p (.bool (f v))/\H'=H) :
  ACalls Tryz.prog 266 [.p (.list c (l.map jK)),.fn (.func g) [] caps] H fun x H'=>x= .p (.bool (l.any f))/\H'=H:=by
 refine X6 Tryz.func266 rfl zS (Zg [] _ _ _ _ ?_);simp (disch:=omega) only [Tryz.f266,go_sem,seval];refine (R5 l c g caps H f hl hW hc hg).useH (Wp ?_);rw [cX]
theorem fS (x:Inst) (r:Rte) (hx:InstOk x) (hl:r.visits.length<=1048576):PC 218 [.p (ZF x),.p (WA r)] (.int .i64 (Xi x r.visits)):=by
 have hf:=YV hx;obtain ⟨h1,h2⟩:=Qn.1 hx.rules
 have ha:x.apart.length<=1048576:=by
  have h3:=(Qn.1 h1).1
  grind [MN]
 have hb:x.before.length<=1048576:=by
  have h3:=(Qn.1 h2).1
  grind [MN]
 exact N8 x r (by have:=hf.len;omega) hl ha hb
theorem nL {x:Inst} {l:List Vis} (hi:Inr x l) (hn:x.orders.length<=10):Ju l=(((XP l:Nat):Int),0):=by
 rw [Ju,if_pos];rw [Zy];intro v hv;have:=hi v hv;simp [Fz];omega
theorem ZnY {α:Type} (f:Nat->α) (n:Nat):(List.range n).map f++ [f n]=(List.range (n+1)).map f:=by grind [Yu]
theorem fP (x:Inst) (r:Rte) (hx:InstOk x) (hl:r.visits.length<=1048576) (h0:Xi x r.visits=0) :
  PT 265 [.p (ZF x),.p (WA r)] [.p (.list false ((U5 x r.visits).map jK)),.p (.int .i64 0)]:=by
 have hd:=UZ hx;have hsq:=Ua h0;have hol:=hd.ord;have hso:=Mi r hl;rw [nL hsq.inr hol] at hso
 have hD:dimsOf x.types=((dimsOf x.types).toNat:Int):=by have:=hd.dim;omega
 have cd:=nQ x.types x.types_c hd.typ;rw [hD] at cd;have hst:=Tb hsq.inr hol
 have hmem: ∀i∈XO ((XP r.visits:Nat):Int) 63,0<=i/\i<(x.orders.length:Int):=fun i hi=>by
  rw [Zhj hsq.inr hol] at hi
  grind
 have cs:=oT x ((XP r.visits:Nat):Int) (dimsOf x.types).toNat (by have:=hd.dim;omega) Za hmem (BD _ _) (fun o ho=>by have:=hd.load o ho;grind);rw [hst] at cs;refine Zf [20] Tryz.func265 rfl zR ?_;simp (disch:=omega) only [Tryz.f265,go_sem,seval];refine (fS x r hx hl).use (Wp ?_);simp (disch:=omega) only [h0,go_sem,seval];refine X2 hso (Wp ?_);refine XH (Wp ?_);refine Zp (cd) (Wp ?_);refine Zp (cs) (Wp ?_);refine Xc [20] [2,37,38] (fun q:Nat×List (List Int)=> [(9,.p (.list false ((Wb x r.visits q.1).map eI))),(10,.sl 2 0 q.2.length q.2.length),(39,.p (.int .i64 q.1))]) (fun q=> [Zj x,Xb r,.elems 1 (q.2.map jK)]) (fun q=>q.1<=r.visits.length/\q.2=(List.range (q.1+1)).map (Wb x r.visits)) (fun q=>r.visits.length-q.1) (0,[Wb x r.visits 0]) Zb (Weak.mk ?_) ?_
 ·simp (disch:=omega) only [Zj,Xb,Zo,ZG,ZQ,Zz,go_sem,seval]
 ·rintro ⟨k,o⟩ ⟨hk,ho⟩;simp only at hk ho
  have hol2:o.length=k+1:=by rw [ho];simp
  refine C7 ?_;refine cD ?_ ?_<;>intro h1<;>simp (disch:=omega) only [Sh.out h1,go_sem,seval,↓reduceIte]
  ·have hk2:k<r.visits.length:=Za
   obtain ⟨v1,v2⟩:=hsq.inr _ (Zq hk2)
   have hi:(nth r.visits k).order.toNat<x.orders.length:=Za
   obtain ⟨l1,l2⟩:=hd.load _ (ZD hi);have hsu:=Rc hsq hk2;have hal:=DN (x:=x) (l:=r.visits) (n:=k);have hdm:=hd.dim
   have hrg: ∀j,j<(Wb x r.visits k).length-> -1073741824<=nth (Wb x r.visits k) j/\nth (Wb x r.visits k) j<=1073741824/\ -1073741824<=nth (nth x.orders (nth r.visits k).order.toNat).load j/\nth (nth x.orders (nth r.visits k).order.toNat).load j<=1073741824:=fun j hj=>by
    have b1:=TU (x:=x) (l:=r.visits) (n:=k) (j:=j) Za hd
    grind [ZD]
   refine cD ?_ ?_<;>intro h2<;>simp (disch:=omega) only [Sh.out h2,go_sem,seval,↓reduceIte]
   ·rw [if_pos h2] at hsu;refine X2 (Zbp (Wb x r.visits k) (nth x.orders (nth r.visits k).order.toNat).load false (nth x.orders (nth r.visits k).order.toNat).load_c Za Za hrg) (Wp ?_);exact ⟨(k+1,o++ [Wb x r.visits (k+1)]),⟨Za,by grind⟩,Za,Weak.mk (by simp (disch:=omega) only [hsu,Zw,Zz,ZQ,XY,ZG,Zo,go_sem,seval])⟩
   ·rw [if_neg (by rw [h2];simp)] at hsu;refine X2 (fM (Wb x r.visits k) (nth x.orders (nth r.visits k).order.toNat).load false (nth x.orders (nth r.visits k).order.toNat).load_c Za Za hrg) (Wp ?_);exact ⟨(k+1,o++ [Wb x r.visits (k+1)]),⟨Za,by grind⟩,Za,Weak.mk (by simp (disch:=omega) only [hsu,Zw,Zz,ZQ,XY,ZG,Zo,go_sem,seval])⟩
  ·have hkl:k=r.visits.length:=Za
   subst hkl;refine Zr (Weak.fz (o:=2) (by rfl)) (Zg [] _ _ _ _ (Aq ?_));rw [U5,<- ho];exact we
theorem mH (x:Inst) (r:Rte) (a:List Int) (htl:x.types.length<=1048576) (hty:0<=r.typ/\r.typ<(x.types.length:Int)) (ha:a.length<=1048576) (hc:(ZX x r).cap.length<=1048576) :
  ACalls Tryz.prog 267 [.p (jK a),.ptr 0 0,.ptr 1 0] [Zj x,Xb r] fun y H'=>y= .p (.bool (!UX a (ZX x r).cap))/\H'= [Zj x,Xb r]:=by
 have hti:r.typ.toNat<x.types.length:=Za
 refine Zf [] Tryz.func267 rfl zT ?_;simp (disch:=omega) only [Tryz.f267,Zj,Xb,go_sem,seval];refine (nS a (ZX x r).cap false (ZX x r).cap_c ha hc).use (Wp ?_);exact we
theorem fN (x:Inst) (r:Rte) (hx:InstOk x) (hl:r.visits.length<=1048576) (hty:0<=r.typ/\r.typ<(x.types.length:Int)) (h0:Xi x r.visits=0) :
  PC 220 [.p (ZF x),.p (WA r)] (.int .i64 (if U4 x (ZX x r).cap r.visits=true then 0 else 17)):=by
 have hd:=UZ hx;have htl:=hd.typ
 have hti:r.typ.toNat<x.types.length:=Za
 have hcp:(ZX x r).cap.length<=1048576:=by
  have hcap:=hx.types.2 _ hti;unfold As at hcap;obtain ⟨⟨⟨⟨⟨⟨⟨⟨_,_⟩,_⟩,_⟩,hcap⟩,_⟩,_⟩,_⟩,_⟩:=hcap;simp only [Uq,Zt,Zl,rng] at hcap;unfold ZX;omega
 have hll:(U5 x r.visits).length=r.visits.length+1:=by simp [U5]
 have hvl:=(Ua h0).len hd.ord
 have hall:(U5 x r.visits).any (fun a=> !UX a (ZX x r).cap)= !U4 x (ZX x r).cap r.visits:=by
  grind [U4,U5]
 have e1: ¬r.typ<0:=Za
 have e2: ¬(x.types.length:Int)<=r.typ:=Za
 refine Zc Tryz.func220 rfl yJ ?_;simp (disch:=omega) only [Tryz.f220,e1,e2,go_sem,seval];refine X2 (fP x r hx hl h0) (Wp ?_);refine (Hu (U5 x r.visits) false 267 [.ptr 0 0,.ptr 1 0] [Zj x,Xb r] (fun a=> !UX a (ZX x r).cap) Za (by simp (disch:=omega) only [Zj,Xb,go_sem,seval]) (by rfl) (fun a ha=>mH x r a htl hty ?_ hcp)).useH ?_
 ·obtain ⟨j,_,rfl⟩:=XD.1 ha;rw [DN];have:=hd.dim;omega
 ·refine C7 ?_;rw [hall];refine cD ?_ ?_<;>intro h1<;>simp (disch:=omega) only [Sh.out h1,go_sem,seval]
  ·grind
  grind
def FA (x:Inst) (o n:Nat):List V:= [.p (.list x.net.places_c (x.net.places.map eS)),.p (.list x.net.arcs_c (x.net.arcs.map V0)),.p (.list x.types_c (x.types.map V1)),.sl o 0 n n,.p (.list x.apart_c (x.apart.map eP)),.p (.list x.before_c (x.before.map eP))]
def It (x:Inst) (k:Nat):List Ord:=Qu (fun j=>if j<k then Ej x j else nth x.orders j) x.orders.length
theorem O0 {x:Inst} {k:Nat} :(It x k).length=x.orders.length:=YS
theorem Lj {x:Inst} :It x 0=x.orders:=(Jw fun j _=>by rfl).trans SV
theorem OZ {x:Inst} :It x x.orders.length=Qu (Ej x) x.orders.length:=Jw fun j hj=>by grind
theorem O1 {x:Inst} {k:Nat} (h:k<x.orders.length):nth (It x k) k=nth x.orders k:=by simp_all [It,UJ]
theorem mO {x:Inst} {k:Nat} :(It x k).set k (Ej x k)=It x (k+1):=by
 rw [It,L4];refine Jw fun i _=> ?_
 grind
theorem O2 (x:Inst) (ho:x.orders.length<=1048576):ACalls Tryz.prog 35 [.p (ZF x)] [] fun y H'=>y= .agg (FA x 2 x.orders.length)/\H'= [.cells (FA x 2 x.orders.length),.cells (FA x 2 x.orders.length),.elems 16 ((Qu (Ej x) x.orders.length).map eOrd)]:=by
 refine Zf [2] Tryz.func35 rfl ZgL ?_;simp (disch:=omega) only [Tryz.f35,go_sem,seval];refine UW (Dj 3 rfl rfl (Wp ?_))
 have h1: ∀q∈x.orders.map eOrd,q.cells.length=16/\ ∀z∈q.cells,z.one=true:=fun q hq=>by
  obtain ⟨o,_,rfl⟩:=XD.1 hq;exact ⟨rfl,fun z hz=>by simp [eOrd,PV.cells] at hz;rcases hz with rfl | rfl | rfl | rfl | rfl | rfl | rfl | rfl | rfl | rfl | rfl | rfl | rfl | rfl | rfl | rfl<;>rfl⟩
 have key: ∀z:PV,x.orders= []->List.replicate x.orders.length z=(It x 0).map eOrd:=fun z h=>by rw [Lj,h];rfl
 have key2:x.orders.map eOrd=(It x 0).map eOrd:=by rw [Lj]
 by_cases h0:x.orders= []
 ·refine ⟨_,_,Gx (e:=59) (S:=16) rfl Tryz.underlying40 Zd rfl rfl rfl Zb (.inl (by rw [h0];rfl)),?_⟩;refine Zg [] _ _ _ _ ?_;simp (disch:=first | omega | (simp only [Zz,ZQ,Zw,Zv,ZE,ZK]<;>omega)) only [eq_self,List.length_replicate,go_sem,seval,↓reduceIte];refine Zk [1,2,3,14] (fun k:Nat=> [(15,.p (.int .i64 k))]) (fun k=> [Zj x,.cells (List.replicate 6 (.p (.list true []))),.elems 16 ((It x k).map eOrd)]) (fun k=>k<=x.orders.length) (fun k=>x.orders.length-k) 0 Zb (Weak.mk ?_) ?_
  ·simp (disch:=omega) only [Zj,List.replicate,go_sem,seval]
   grind
  ·intro k hk;have hrl:=O0 (x:=x) (k:=k);simp (disch:=first | omega | (simp only [Zz,ZQ,Zw,Zv,ZE,ZK]<;>omega)) only [Zj,List.replicate,eq_self,go_sem,seval];refine cD ?_ ?_<;>intro h2<;>simp (disch:=omega) only [Sh.out h2,hrl,go_sem,seval,↓reduceIte]
   ·have hk2:k<x.orders.length:=Za
    have hnk:=O1 hk2
    have he:Qw ((It x k).map eOrd) k=eOrd (nth x.orders k):=by grind
    have ZH:((It x k).map eOrd).set k (eOrd (Ej x k))=(It x (k+1)).map eOrd:=by grind
    simp only [Hw,Ej] at ZH;simp (disch:=first | omega | (simp only [Zz,ZQ,Zw,Zv,ZE,ZK]<;>omega)) only [hrl,eq_self,go_sem,seval];exact ⟨k+1,Za,Za,Weak.mk (by simp (disch:=omega) only [hnk,ZH,go_sem,seval])⟩
   ·have hkl:k=x.orders.length:=Za
    subst hkl;rw [OZ];exact ⟨_,_,Weak.refl _ _ _,rfl,rfl⟩
 ·have hl0:0<x.orders.length:=List.length_pos_iff.2 h0;refine ⟨_,_,Gw (e:=59) (S:=16) rfl Tryz.underlying40 Zd Za rfl rfl rfl Zb Zb (by grind) h1,?_⟩;rw [Bt Zb,Qq];refine Zg [] _ _ _ _ ?_;simp (disch:=first | omega | (simp only [Zz,ZQ,Zw,Zv,ZE,ZK]<;>omega)) only [eq_self,Xo,ZC,go_sem,seval,↓reduceIte];refine Zk [1,2,3,14] (fun k:Nat=> [(15,.p (.int .i64 k))]) (fun k=> [Zj x,.cells (List.replicate 6 (.p (.list true []))),.elems 16 ((It x k).map eOrd)]) (fun k=>k<=x.orders.length) (fun k=>x.orders.length-k) 0 Zb (Weak.mk ?_) ?_
  ·simp (disch:=omega) only [Zj,List.replicate,go_sem,seval];omega
  ·intro k hk;have hrl:=O0 (x:=x) (k:=k);simp (disch:=first | omega | (simp only [Zz,ZQ,Zw,Zv,ZE,ZK]<;>omega)) only [Zj,List.replicate,eq_self,go_sem,seval];refine cD ?_ ?_<;>intro h2<;>simp (disch:=omega) only [Sh.out h2,hrl,go_sem,seval,↓reduceIte]
   ·have hk2:k<x.orders.length:=Za
    have hnk:=O1 hk2
    have he:Qw ((It x k).map eOrd) k=eOrd (nth x.orders k):=by grind [Wn]
    have ZH:((It x k).map eOrd).set k (eOrd (Ej x k))=(It x (k+1)).map eOrd:=by rw [<- UE,mO]
    simp only [Hw,Ej] at ZH;simp (disch:=first | omega | (simp only [Zz,ZQ,Zw,Zv,ZE,ZK]<;>omega)) only [hrl,eq_self,go_sem,seval];exact ⟨k+1,Za,Za,Weak.mk (by simp (disch:=omega) only [hnk,ZH,go_sem,seval])⟩
   ·have hkl:k=x.orders.length:=Za
    subst hkl;rw [OZ];exact ⟨_,_,Weak.refl _ _ _,rfl,rfl⟩
theorem KB {P:Program} {e:TypeId} {k:Nat} {cs:List PV} {kk:IntKind} {n:Int} {x:PV} (h0:0<=n) (h1:n<k) (hx:apart P e cs n.toNat=some x) (ht:YE P e=some 1):Ix P (some (.array k e)) (.p (.agg cs)) (.p (.int kk n))=some (.p x):=by
 simp_all [Ix]
def ZfZ (s:Sco):PV:= .agg [.int .i64 s.cost,.int .i64 s.moved,.int .i64 s.other,.int .i64 s.work]
@[go_sem] theorem Zjj (s:Sco):ZfZ s= .agg [.int .i64 s.cost,.int .i64 s.moved,.int .i64 s.other,.int .i64 s.work]:=Zh rfl rfl
theorem fT (s:Sco):PC 198 [.p (Bb s)] (ZfZ s):=by
 refine Zf [] Tryz.func198 rfl yG ?_;simp (disch:=omega) only [Tryz.f198,go_sem,seval];exact we
def XV (a b:Sco):Sco:=⟨a.cost+b.cost,a.moved+b.moved,a.other+b.other,a.work+b.work⟩
def UV (B:Int) (s:Sco):Prop:=(-B<=s.cost/\s.cost<=B)/\(-B<=s.moved/\s.moved<=B)/\(-B<=s.other/\s.other<=B)/\(-B<=s.work/\s.work<=B)
def A1 (s:Sco):AM.Obj:= .cells [.p (.int .i64 s.cost),.p (.int .i64 s.moved),.p (.int .i64 s.other),.p (.int .i64 s.work)]
def XW (s:Sco):Int×Int:=if s.cost<0\/s.moved<0\/s.other<0\/s.work<0 then (0,2) else if 1073741824<s.cost\/16<=s.moved\/16<=s.other\/65536<=s.work then (0,4) else (((s.cost*16+s.moved)*16+s.other)*65536+s.work,0)
theorem Gz (s:Sco) (hs:UV 1152921504606846976 s):PT 152 [.p (Bb s)] [.p (.int .i64 (XW s).1),.p (.int .i64 (XW s).2)]:=by
 obtain ⟨a1,a2,a3,a4⟩:=hs;refine Zf [] Tryz.func152 rfl xG ?_;simp (disch:=omega) only [Tryz.f152,go_sem,seval];refine (fT s).use (Wp ?_);refine Zk [1,9] (fun k:Nat=> [(10,.p (.int .i64 k))]) (fun _=> [A1 s,A1 s]) (fun k=>k<=4/\(0<k->0<=s.cost)/\(1<k->0<=s.moved)/\(2<k->0<=s.other)/\(3<k->0<=s.work)) (fun k=>4-k) 0 ⟨Za,Za,Za,Za,Za⟩ (Weak.mk ?_) ?_
 ·simp (disch:=omega) only [A1,go_sem,seval]
 ·rintro k ⟨hk,k1,k2,k3,k4⟩;simp (disch:=omega) only [A1,go_sem,seval];refine cD ?_ ?_<;>intro h1<;>simp (disch:=omega) only [Sh.out h1,go_sem,seval,↓reduceIte]
  ·have:k=0\/k=1\/k=2\/k=3:=Za
   rcases this with rfl | rfl | rfl | rfl
   ·rw [KB (x:= .int .i64 s.cost) Za Za (by rfl) Zd];refine Wp ?_;refine ZP ?_ ?_<;>intro h2
    ·have e:XW s=(0,2):=by simp_all [XW]
     rw [e];exact we
    ·exact ⟨1,⟨Za,fun _=>Za,Za,Za,Za⟩,Za,wk⟩
   ·rw [KB (x:= .int .i64 s.moved) Za Za (by rfl) Zd];refine Wp ?_;refine ZP ?_ ?_<;>intro h2
    ·have e:XW s=(0,2):=by simp_all [XW]
     rw [e];exact we
    ·exact ⟨2,⟨Za,fun _=>k1 Za,fun _=>Za,Za,Za⟩,Za,wk⟩
   ·rw [KB (x:= .int .i64 s.other) Za Za (by rfl) Zd];refine Wp ?_;refine ZP ?_ ?_<;>intro h2
    ·have e:XW s=(0,2):=by simp_all [XW]
     rw [e];exact we
    ·exact ⟨3,⟨Za,fun _=>k1 Za,fun _=>k2 Za,fun _=>Za,Za⟩,Za,wk⟩
   ·rw [KB (x:= .int .i64 s.work) Za Za (by rfl) Zd];refine Wp ?_;refine ZP ?_ ?_<;>intro h2
    ·have e:XW s=(0,2):=by simp_all [XW]
     rw [e];exact we
    ·exact ⟨4,⟨Za,fun _=>k1 Za,fun _=>k2 Za,fun _=>k3 Za,fun _=>Za⟩,Za,wk⟩
  ·have hk4:k=4:=Za
   subst hk4;have g1:=k1 Za;have g2:=k2 Za;have g3:=k3 Za;have g4:=k4 Za
   have n1: ¬(s.cost<0\/s.moved<0\/s.other<0\/s.work<0):=Za
   have bad:(1073741824<s.cost\/16<=s.moved\/16<=s.other\/65536<=s.work)->XW s=(0,4):=fun h=>by simp_all [XW]
   refine gF ?_ ?_<;>intro h2<;>simp (disch:=omega) only [Sh.out h2,go_sem,seval,↓reduceIte]
   ·rw [bad Za];exact we
   ·refine gF ?_ ?_<;>intro h3<;>simp (disch:=omega) only [Sh.out h3,go_sem,seval,↓reduceIte]
    ·rw [bad Za];exact we
    ·refine gF ?_ ?_<;>intro h4<;>simp (disch:=omega) only [Sh.out h4,go_sem,seval,↓reduceIte]
     ·rw [bad Za];exact we
     ·refine cD ?_ ?_<;>intro h5<;>simp (disch:=omega) only [Sh.out h5,go_sem,seval,↓reduceIte]
      ·rw [bad Za];exact we
      ·have e:XW s=(((s.cost*16+s.moved)*16+s.other)*65536+s.work,0):=by simp_all [XW,if_neg]
       rw [e];exact we
def Xk (x:Inst) (i:Int):Sco×Int :=
 if i<0\/(x.orders.length:Int)<=i then (zSco,2)
 else if (nth x.orders i.toNat).off=true then (zSco,9)
 else if (nth x.orders i.toNat).penalty= -1 then (zSco,23)
 else (⟨(nth x.orders i.toNat).penalty,if (nth x.orders i.toNat).now= -1 then 0 else 1,0,0⟩,0)
theorem LU (x:Inst) (i:Int) (ho:x.orders.length<=1048576):PT 151 [.p (ZF x),.p (.int .i64 i)] [.p (Bb (Xk x i).1),.p (.int .i64 (Xk x i).2)]:=by
 refine Zf [] Tryz.func151 rfl xF ?_;simp (disch:=omega) only [Tryz.f151,go_sem,seval];refine gF ?_ ?_<;>intro h1<;>simp (disch:=omega) only [Sh.out h1,go_sem,seval,↓reduceIte]
 ·have e:Xk x i=(zSco,2):=by simp_all [Xk]
  rw [e];exact we (by simp (disch:=omega) only [zSco,go_sem,seval])
 ·refine cD ?_ ?_<;>intro h2<;>simp (disch:=omega) only [Sh.out h2,go_sem,seval,↓reduceIte]
  ·have e:Xk x i=(zSco,2):=by simp_all [Xk]
   rw [e];exact we (by simp (disch:=omega) only [zSco,go_sem,seval])
  ·have hi:i.toNat<x.orders.length:=Za
   have n1: ¬(i<0\/(x.orders.length:Int)<=i):=Za
   refine cD ?_ ?_<;>intro h3<;>simp (disch:=omega) only [Sh.out h3,go_sem,seval,↓reduceIte]
   ·have e:Xk x i=(zSco,9):=by simp_all [Xk]
    rw [e];exact we (by simp (disch:=omega) only [zSco,go_sem,seval])
   ·have h3': ¬(nth x.orders i.toNat).off=true:=by rw [h3];simp
    refine cD ?_ ?_<;>intro h4<;>simp (disch:=omega) only [Sh.out h4,go_sem,seval,↓reduceIte]
    ·have e:Xk x i=(zSco,23):=by simp_all [Xk]
     rw [e];exact we (by simp (disch:=omega) only [zSco,go_sem,seval])
    ·refine cD ?_ ?_<;>intro h5<;>simp (disch:=omega) only [Sh.out h5,go_sem,seval,↓reduceIte]
     ·have e:Xk x i=(⟨(nth x.orders i.toNat).penalty,1,0,0⟩,0):=by simp_all [Xk]
      rw [e];exact we
     ·have h5':(nth x.orders i.toNat).now= -1:=Za
      have e:Xk x i=(⟨(nth x.orders i.toNat).penalty,0,0,0⟩,0):=by simp_all [Xk]
      rw [e];exact we
theorem Im (x:Inst) (i:Int) (ho:x.orders.length<=1048576):PT 50 [.p (ZF x),.p (.int .i64 i)] [.p (Bb (Xk x i).1),.p (.int .i64 (Xk x i).2)]:=by
 refine Zf [] Tryz.func50 rfl ZgS ?_;simp (disch:=omega) only [Tryz.f50,go_sem,seval];refine gF ?_ ?_<;>intro h1<;>simp (disch:=omega) only [Sh.out h1,go_sem,seval,↓reduceIte]
 ·have e:Xk x i=(zSco,2):=by simp_all [Xk]
  rw [e];exact we (by simp (disch:=omega) only [zSco,go_sem,seval])
 ·refine cD ?_ ?_<;>intro h2<;>simp (disch:=omega) only [Sh.out h2,go_sem,seval,↓reduceIte]
  ·have e:Xk x i=(zSco,2):=by simp_all [Xk]
   rw [e];exact we (by simp (disch:=omega) only [zSco,go_sem,seval])
  ·have hi:i.toNat<x.orders.length:=Za
   have n1: ¬(i<0\/(x.orders.length:Int)<=i):=Za
   refine cD ?_ ?_<;>intro h3<;>simp (disch:=omega) only [Sh.out h3,go_sem,seval,↓reduceIte]
   ·have e:Xk x i=(zSco,9):=by simp_all [Xk]
    rw [e];exact we (by simp (disch:=omega) only [zSco,go_sem,seval])
   ·have h3': ¬(nth x.orders i.toNat).off=true:=by rw [h3];simp
    refine cD ?_ ?_<;>intro h4<;>simp (disch:=omega) only [Sh.out h4,go_sem,seval,↓reduceIte]
    ·have e:Xk x i=(zSco,23):=by simp_all [Xk]
     rw [e];exact we (by simp (disch:=omega) only [zSco,go_sem,seval])
    ·refine cD ?_ ?_<;>intro h5<;>simp (disch:=omega) only [Sh.out h5,go_sem,seval,↓reduceIte]
     ·have e:Xk x i=(⟨(nth x.orders i.toNat).penalty,1,0,0⟩,0):=by simp_all [Xk]
      rw [e];exact we
     ·have h5':(nth x.orders i.toNat).now= -1:=Za
      have e:Xk x i=(⟨(nth x.orders i.toNat).penalty,0,0,0⟩,0):=by simp_all [Xk]
      rw [e];exact we
theorem GZ (a b:Sco) (ha:UV 1152921504606846976 a) (hb:UV 1152921504606846976 b):PC 49 [.p (Bb a),.p (Bb b)] (Bb (XV a b)):=by
 obtain ⟨a1,a2,a3,a4⟩:=ha;obtain ⟨b1,b2,b3,b4⟩:=hb;refine Zf [] Tryz.func49 rfl ZgR ?_;simp (disch:=omega) only [Tryz.f49,go_sem,seval];exact we (by simp (disch:=omega) only [XV,go_sem,seval])
def I3 (x:Inst) (t:Typ) (r:Rte) (c:Bool) (sp:List Stp):PV:= .agg [.list x.net.places_c (x.net.places.map eS),.list x.net.arcs_c (x.net.arcs.map V0),.list x.types_c (x.types.map V1),.list x.orders_c (x.orders.map eOrd),.list x.apart_c (x.apart.map eP),.list x.before_c (x.before.map eP),.str t.name,.int .i64 t.count,.int .i64 t.src,.int .i64 t.dst,.list t.cap_c (t.cap.map eI),.int .i64 t.skills,.int .i64 t.prof,.int .i64 t.opn,.int .i64 t.cls,.int .i64 t.drive,.int .i64 t.rest,.int .i64 t.fixed,.int .i64 t.perMile,.int .i64 t.perTick,.int .i64 r.typ,.int .i64 r.start,.list r.rests_c (r.rests.map eB),.list r.visits_c (r.visits.map Xf),.list c (sp.map Ea)]
@[go_sem] theorem Zjz (x:Inst) (t:Typ) (r:Rte) (c:Bool) (sp:List Stp):I3 x t r c sp= .agg [.list x.net.places_c (x.net.places.map eS),.list x.net.arcs_c (x.net.arcs.map V0),.list x.types_c (x.types.map V1),.list x.orders_c (x.orders.map eOrd),.list x.apart_c (x.apart.map eP),.list x.before_c (x.before.map eP),.str t.name,.int .i64 t.count,.int .i64 t.src,.int .i64 t.dst,.list t.cap_c (t.cap.map eI),.int .i64 t.skills,.int .i64 t.prof,.int .i64 t.opn,.int .i64 t.cls,.int .i64 t.drive,.int .i64 t.rest,.int .i64 t.fixed,.int .i64 t.perMile,.int .i64 t.perTick,.int .i64 r.typ,.int .i64 r.start,.list r.rests_c (r.rests.map eB),.list r.visits_c (r.visits.map Xf),.list c (sp.map Ea)]:=Zh rfl rfl
def ZbM (x:Inst) (t:Typ) (r:Rte):List V:= [.p (.list x.net.places_c (x.net.places.map eS)),.p (.list x.net.arcs_c (x.net.arcs.map V0)),.p (.list x.types_c (x.types.map V1)),.p (.list x.orders_c (x.orders.map eOrd)),.p (.list x.apart_c (x.apart.map eP)),.p (.list x.before_c (x.before.map eP)),.p (.str t.name),.p (.int .i64 t.count),.p (.int .i64 t.src),.p (.int .i64 t.dst),.p (.list t.cap_c (t.cap.map eI)),.p (.int .i64 t.skills),.p (.int .i64 t.prof),.p (.int .i64 t.opn),.p (.int .i64 t.cls),.p (.int .i64 t.drive),.p (.int .i64 t.rest),.p (.int .i64 t.fixed),.p (.int .i64 t.perMile),.p (.int .i64 t.perTick),.p (.int .i64 r.typ),.p (.int .i64 r.start),.p (.list r.rests_c (r.rests.map eB)),.p (.list r.visits_c (r.visits.map Xf))]
def YL (x:Inst) (t:Typ) (r:Rte) (c:Bool) (sp:List Stp):AM.Obj:= .cells [.p (.list x.net.places_c (x.net.places.map eS)),.p (.list x.net.arcs_c (x.net.arcs.map V0)),.p (.list x.types_c (x.types.map V1)),.p (.list x.orders_c (x.orders.map eOrd)),.p (.list x.apart_c (x.apart.map eP)),.p (.list x.before_c (x.before.map eP)),.p (.str t.name),.p (.int .i64 t.count),.p (.int .i64 t.src),.p (.int .i64 t.dst),.p (.list t.cap_c (t.cap.map eI)),.p (.int .i64 t.skills),.p (.int .i64 t.prof),.p (.int .i64 t.opn),.p (.int .i64 t.cls),.p (.int .i64 t.drive),.p (.int .i64 t.rest),.p (.int .i64 t.fixed),.p (.int .i64 t.perMile),.p (.int .i64 t.perTick),.p (.int .i64 r.typ),.p (.int .i64 r.start),.p (.list r.rests_c (r.rests.map eB)),.p (.list r.visits_c (r.visits.map Xf)),.p (.list c (sp.map Ea))]
def ZbY : AM.Obj:= .cells [.p (.list true []),.p (.list true []),.p (.list true []),.p (.list true []),.p (.list true []),.p (.list true []),.p (.str []),.p (.int .i64 0),.p (.int .i64 0),.p (.int .i64 0),.p (.list true []),.p (.int .i64 0),.p (.int .i64 0),.p (.int .i64 0),.p (.int .i64 0),.p (.int .i64 0),.p (.int .i64 0),.p (.int .i64 0),.p (.int .i64 0),.p (.int .i64 0),.p (.int .i64 0),.p (.int .i64 0),.p (.list true []),.p (.list true []),.p (.list true [])]
def Q7 (L:Lab):PV:= .agg [.int .i64 L.ready,.int .i64 L.since,.bool L.she.rest,.int .i64 L.she.dep,.list L.she.times_c (L.she.times.map eTim),.int .i64 L.she.fin,.int .i64 L.she.miles]
@[go_sem] theorem Zjq (L:Lab):Q7 L= .agg [.int .i64 L.ready,.int .i64 L.since,.bool L.she.rest,.int .i64 L.she.dep,.list L.she.times_c (L.she.times.map eTim),.int .i64 L.she.fin,.int .i64 L.she.miles]:=Zh rfl rfl
@[go_sem] theorem Zct (l:List Lab):Cb 7 (l.map Q7)=true:=DR (f:=Q7) (S:=7) (fun _=>rfl) l
def Wv (L:Lab):AM.Obj:= .cells [.p (.int .i64 L.ready),.p (.int .i64 L.since),.p (.bool L.she.rest),.p (.int .i64 L.she.dep),.p (.list L.she.times_c (L.she.times.map eTim)),.p (.int .i64 L.she.fin),.p (.int .i64 L.she.miles)]
theorem aX (l:List Tim) (c:Bool) (hl:l.length<=1048576):ACalls Tryz.prog 312 [.p (.list c (l.map eTim))] [] fun x H'=>x= .sl 0 0 l.length l.length/\H'= [.elems 4 (l.map eTim)]:=by
 suffices hh:ACalls Tryz.prog 312 [.p (.list c (l.map eTim))] [] fun x H'=> ∃m:List Tim,m=l/\x= .sl 0 0 m.length m.length/\H'= [.elems 4 (m.map eTim)] by
  grind
 refine Zf [1] Tryz.func312 rfl ZaH ?_;simp (disch:=omega) only [Tryz.f312,go_sem,seval];refine UW (UW (kX 1 rfl rfl ?_));refine ⟨_,Pu (e:=178) rfl Tryz.underlying93 rfl (fun _=>rfl),?_⟩;rintro _ ⟨b,rfl,hb⟩;refine Wp ?_;refine Zg [] _ _ _ _ ?_
 cases b with
 | true =>
  have hn:l= []:=by simp_all
  subst hn;refine Wp ?_;exact ⟨_,_,Weak.ofNil 0 4 rfl Zb (wk),[],rfl,rfl,rfl⟩
 | false =>
  refine Wp ?_;refine Zg [] _ _ _ _ (Wp ?_);exact ⟨.sl 0 0 l.length l.length,[.elems 4 (l.map eTim)],wk,l,rfl,rfl,rfl⟩
theorem FV (x:Inst) (t:Typ) (r:Rte) (c:Bool) (sp:List Stp):PC 270 [.p (I3 x t r c sp)] (Q7 (labF t r.start)):=by
 refine Zf [] Tryz.func270 rfl zV ?_;simp (disch:=omega) only [Tryz.f270,go_sem,seval];exact we (by simp (disch:=omega) only [labF,zShe,Zo,go_sem,seval])
theorem gD (x:Inst) (t:Typ) (r:Rte) (c:Bool) (sp:List Stp) (k:Nat) (hk:k<=sp.length) (hl:sp.length<=1048576):PC 313 [.p (I3 x t r c sp),.p (.int .i64 (k:Nat))] (.int .i64 (V6 t sp k)):=by
 refine Zc Tryz.func313 rfl ZaI ?_;simp (disch:=omega) only [Tryz.f313,go_sem,seval];refine cD ?_ ?_<;>intro h<;>simp (disch:=omega) only [Sh.out h,go_sem,seval,↓reduceIte]
 ·simp_all [V6]
 simp_all [V6]
theorem Zbr (x:Inst) (r:Rte) (hx:InstOk x) (hty:0<=r.typ/\r.typ<(x.types.length:Int)) (h0:Xi x r.visits=0) (hs:0<=r.start/\r.start<=4096) :
  PT 269 [.p (ZF x),.p (WA r)] [.p (I3 x (ZX x r) r false (Z8 x r.visits)),.p (.bool true)]:=by
 have hd:=UZ hx;have hsq:=Ua h0;have hol:=hd.ord;have htl:=hd.typ;have hvl:=hsq.len hol
 have e1: ¬r.typ<0:=Za
 have e2: ¬(x.types.length:Int)<=r.typ:=Za
 have e3: ¬r.start<0:=Za
 have e4: ¬ 4096<r.start:=Za
 have e5: ¬ 20<(r.visits.length:Int):=Za
 refine Zf [12] Tryz.func269 rfl dL ?_;simp (disch:=omega) only [Tryz.f269,e1,e2,e3,e4,e5,go_sem,seval];refine Xe [9] 10 mixed Zd Zd Zd Zb (Wp ?_);refine ZJ 9 _ _ Zd (by refine Wp ?_;exact ⟨rfl,rfl⟩) (Yk ?_);refine Wp ?_
 refine Xc [12] [2,4,6,49,50] (fun q:Nat×List Stp=> [(51,.p (.int .i64 q.1))])
  (fun q=> [Zj x,Xb r,ZbY,.cells (ZbM x (ZX x r) r++ [.sl 4 0 q.2.length q.2.length]),.elems 4 (q.2.map Ea)])
  (fun q=>q.1<=r.visits.length/\q.2=(Z8 x r.visits).take q.1) (fun q=>r.visits.length-q.1) (0,[]) Zb ((Weak.nilC (o:=3) (j:=24) 4 rfl rfl Zb).trans (Weak.mk ?_)) ?_
 ·simp (disch:=omega) only [Zj,Xb,ZbY,ZbM,ZX,Zo,ZQ,Xo,ZC,ZY,Xh,go_sem,seval]
 ·rintro ⟨k,o⟩ ⟨hk,ho⟩;simp only at hk ho
  have hol2:o.length=k:=by grind [Yi]
  simp (disch:=omega) only [Zj,Xb,ZbY,ZbM,go_sem,seval];refine cD ?_ ?_<;>intro h1<;>simp (disch:=omega) only [Sh.out h1,go_sem,seval,↓reduceIte]
  ·have hk2:k<r.visits.length:=Za
   have hvis:=hsq.vis (Zq hk2);simp only [Ky,Zt,Zl] at hvis
   have hsn:o++ [XI x (nth r.visits k)]=(Z8 x r.visits).take (k+1):=by
    rw [ho,Xm (by grind [Yi]),<- Ze,E8 hk2]
   have hnp: ¬(XI x (nth r.visits k)).place<0:=Za
   refine X2 (Px x (nth r.visits k) Za hvis.1 hvis.2) ?_;simp (disch:=omega) only [hnp,go_sem,seval];exact ⟨(k+1,o++ [XI x (nth r.visits k)]),⟨Za,hsn⟩,Za,Weak.mk (by simp (disch:=omega) only [Zw,Zz,ZQ,XY,ZG,Zo,go_sem,seval])⟩
  ·have hkl:k=r.visits.length:=Za
   subst hkl
   have hso:o=Z8 x r.visits:=by grind [Yi]
   subst hso;refine Zr (Weak.fz (o:=4) (by rfl)) (Zg [] _ _ _ _ (Aq ?_));exact we
def Ml (rd sn:Int) (m:She):AM.Obj:= .cells [.p (.int .i64 rd),.p (.int .i64 sn),.p (.bool m.rest),.p (.int .i64 m.dep),.sl 4 0 m.times.length m.times.length,.p (.int .i64 m.fin),.p (.int .i64 m.miles)]
theorem AE {P:Program} {H:List AM.Obj} {f ars} {a b d:PV} {B:V->Prop} {t} (h:ACalls P f ars [] fun x H'=>x= .tup [.p a,.p b,.p d]/\H'= []) (k:B (.tup [.p a,.p b,.p d])) (ha:Xd 0 ars=true:=by rfl) :
  RT (fun y=>ACalls P f ars H (Zu (Zu (fun x H'=>x=y/\H'=H) ⟨⟩) ⟨⟩)) (Zu B t) :=
 ⟨.tup [.p a,.p b,.p d],(h.behind ha H).mono fun x H' hq=>by
  obtain ⟨y,H1,⟨rfl,rfl⟩,rfl,rfl⟩:=hq
  simp [shV,shVs,Zu],k⟩
theorem Zbd (x:Inst) (t:Typ) (r:Rte) (c:Bool) (sp:List Stp) (hok:TrpOk x t sp) (k:Nat) (hk:k<=sp.length) (hs1:0<sp.length) (L:Lab) (hL:LabR k L) (hlen:L.she.times.length=k) (hclip:0<k->L.she.times_c=false) (b:Bool) :
  PT 295 [.p (I3 x t r c sp),.p (Q7 L),.p (.int .i64 (k:Nat)),.p (.bool b)] [.p (Q7 (nxtF x t sp k L b).1),.p (.int .i64 (nxtF x t sp k L b).2)]:=by
 have hd:=JY hok hL b;have hsn:=E6 hL b;have hg:=HA hok hL b;have hmi:=hL.mil;have hrd:=hL.rdy;have hsnL:=hL.snc;have hsl:=hok.len;have hrst:=hok.rst;unfold nxtF;have hmm:= @J6 k (ZO t L b) b L.she;have hmf:= @Gq k (ZO t L b) b L.she;have hml:= @K3 k (ZO t L b) b L.she;refine Zf [2,7,14,31] Tryz.func295 rfl Zar ?_;simp (disch:=omega) only [Tryz.f295,go_sem,seval];refine XH (Wp ?_);refine ZI [2,3,4,5,8] (fun _:Unit=> [(10,.p (.int .i64 (ZO t L b))),(11,.p (.int .i64 (Wo L b)))]) (fun _=> [YL x t r c sp,Wv L,Wv Wq]) (fun _=>True) ?_ ?_
 ·refine Wp ?_;refine ZP ?_ ?_<;>intro h
  ·subst h;exact ⟨(),Weak.mk (by simp (disch:=omega) only [YL,Wv,Wq,zShe,ZO,Wo,Zo,go_sem,seval,↓reduceIte])⟩
  ·subst h;exact ⟨(),Weak.mk (by simp (disch:=omega) only [YL,Wv,Wq,zShe,ZO,Wo,Zo,go_sem,seval,↓reduceIte])⟩
 ·intro _ _;refine Zg [7,14,31] _ _ _ _ ?_;simp (disch:=omega) only [YL,Wv,Wq,zShe,Zo,go_sem,seval];refine (aX L.she.times L.she.times_c Za).useF (Wp ?_)
  generalize hM:XX k (ZO t L b) b L.she=M at *
  refine ZI [2,4,8,10,11,12] (fun _:Unit=> []) (fun _=> [YL x t r c sp,Wv L,Wv Wq,Ml 0 0 M,.elems 4 (M.times.map eTim)]) (fun _=>True) ?_ ?_
  ·refine Wp ?_;refine ZP ?_ ?_<;>intro h
   ·have hk0:k=0:=Za
    subst hk0
    have e:M= { L.she with rest:=b,dep:=ZO t L b } :=by rw [<- hM,XX,if_pos rfl]
    rw [e];exact ⟨(),Weak.mk (by simp (disch:=omega) only [YL,Wv,Wq,zShe,Ml,Zo,go_sem,seval])⟩
   ·have e1:((k:Int)-1).toNat=k-1:=Za
    have hk1:k-1<L.she.times.length:=Za
    have O6:(L.she.times.map eTim).set (k-1) (PV.agg [.int .i64 (nth L.she.times (k-1)).arr,.int .i64 (nth L.she.times (k-1)).beg,.int .i64 (nth L.she.times (k-1)).dep,.bool b])=(L.she.times.set (k-1) { nth L.she.times (k-1) with rest:=b }).map eTim:=by
     rw [UE];rfl
    have hn1:nth (L.she.times.set (k-1) { nth L.she.times (k-1) with rest:=b }) (k-1)= { nth L.she.times (k-1) with rest:=b } :=by
     grind [Ze]
    have hl1:(L.she.times.set (k-1) { nth L.she.times (k-1) with rest:=b }).length=L.she.times.length:=Zb
    have hMt:M.times=(L.she.times.set (k-1) { nth L.she.times (k-1) with rest:=b }).set (k-1) { nth (L.she.times.set (k-1) { nth L.she.times (k-1) with rest:=b }) (k-1) with dep:=ZO t L b } :=by
     rw [hn1,List.set_set,<- hM,XX,if_neg Za];rfl
    have hM2:M.rest=L.she.rest/\M.dep=L.she.dep:=by rw [<- hM,XX,if_neg Za];simp
    simp (disch:=first | omega | (simp only [Zz,ZQ,Zw,Zv,ZE,ZK]<;>omega)) only [e1,go_sem,seval,↓reduceIte];rw [O6]
    generalize L.she.times.set (k-1) { nth L.she.times (k-1) with rest:=b } =l1 at *
    simp (disch:=first | omega | (simp only [Zz,ZQ,Zw,Zv,ZE,ZK]<;>omega)) only [e1,hl1,eq_self,W8,go_sem,seval];refine ⟨(),Weak.mk ?_⟩;simp (disch:=omega) only [YL,Wv,Wq,zShe,Ml,Zo,hM2.1,hM2.2,hmm,hmf,hml,go_sem,seval];rw [hMt,UE]
    rfl
  ·intro _ _;refine Zg [14,31] _ _ _ _ ?_;simp (disch:=omega) only [YL,Wv,Wq,zShe,Ml,Zo,go_sem,seval];refine ZI [2,4,8,10,11,12,13] (fun _:Unit=> [(14,.p (.int .i64 (Tg t sp k)))]) (fun _=> [YL x t r c sp,Wv L,Wv Wq,Ml 0 0 M,.elems 4 (M.times.map eTim)]) (fun _=>True) ?_ ?_
   ·refine Wp ?_;refine ZP ?_ ?_<;>intro h
    ·have e:Tg t sp k=(nth sp k).place:=by rw [Tg,if_neg Za]
     exact ⟨(),Weak.mk (by simp (disch:=omega) only [YL,Wv,Wq,zShe,Ml,Zo,e,go_sem,seval])⟩
    ·have e:Tg t sp k=t.dst:=by rw [Tg,if_pos Za]
     exact ⟨(),Weak.mk (by simp (disch:=omega) only [YL,Wv,Wq,zShe,Ml,Zo,e,go_sem,seval])⟩
   ·intro _ _;refine Zg [31] _ _ _ _ ?_;simp (disch:=omega) only [YL,Wv,Wq,zShe,Ml,Zo,go_sem,seval];refine XH (Wp ?_);refine Zp (gD x t r c sp k hk Za) (Wp ?_);refine AE (sH x.net t.prof (V6 t sp k) (Tg t sp k) (ZO t L b) hok.net Za) (Wp ?_);have hG:WB x.net t.prof (V6 t sp k) (Tg t sp k) (ZO t L b)=Y8 x t sp k (ZO t L b):=rfl;rw [hG];clear hG
    generalize Y8 x t sp k (ZO t L b)=g at *
    generalize ZO t L b=d at *
    generalize Wo L b=s at *
    refine cD ?_ ?_<;>intro h1<;>simp (disch:=omega) only [Sh.out h1,go_sem,seval,↓reduceIte]
    ·have e:Wt t sp k g d s M=(Wq,12):=by rw [Wt,if_pos h1]
     rw [e];exact we (by simp (disch:=omega) only [Wq,zShe,Zo,go_sem,seval])
    ·refine cD ?_ ?_<;>intro h2<;>simp (disch:=omega) only [Sh.out h2,go_sem,seval,↓reduceIte]
     ·refine cD ?_ ?_<;>intro h3<;>simp (disch:=omega) only [Sh.out h3,go_sem,seval,↓reduceIte]
      ·have e:Wt t sp k g d s M=(Wq,15):=by rw [Wt,if_neg h1,if_pos Za,if_pos h3]
       rw [e];exact we (by simp (disch:=omega) only [Wq,zShe,Zo,go_sem,seval])
      ·refine Zr (Weak.fz (o:=4) (by rfl)) (Zg [] _ _ _ _ (Aq ?_));refine cD ?_ ?_<;>intro h4<;>simp (disch:=omega) only [Sh.out h4,go_sem,seval,↓reduceIte]
       ·have e:Wt t sp k g d s M=(Wq,16):=by rw [Wt,if_neg h1,if_pos Za,if_neg h3,if_pos h4]
        rw [e];exact we (by simp (disch:=omega) only [Wq,zShe,Zo,go_sem,seval])
       ·have e:Wt t sp k g d s M=(⟨g.1,s+g.1-d,{ M with fin:=g.1,miles:=M.miles+g.2.1 }⟩,0):=by rw [Wt,if_neg h1,if_pos Za,if_neg h3,if_neg h4]
        have hMc:M.times_c=false:=by
         rw [<- hM,XX,if_neg Za]
         grind
        rw [e];exact we (by simp (disch:=omega) only [hMc,go_sem,seval])
     ·have h2': ¬k=sp.length:=Za
      have hkl:k<sp.length:=Za
      have hstp:=hok.stp _ (ZD hkl);refine X2 (OG (nth sp k) g.1) ?_;unfold DZ
      by_cases h3:(nth sp k).cls<max g.1 (nth sp k).opn
      ·have e:Wt t sp k g d s M=(Wq,14):=by simp_all [Wt]
       rw [e,if_pos h3];refine Wp ?_;exact we (by simp (disch:=omega) only [Wq,zShe,Zo,go_sem,seval])
      ·rw [if_neg h3];refine Wp ?_;refine Zr (Weak.fz (o:=4) (by rfl)) (Zg [] _ _ _ _ (Aq ?_));refine cD ?_ ?_<;>intro h4<;>simp (disch:=omega) only [Sh.out h4,go_sem,seval,↓reduceIte]
       ·have e:Wt t sp k g d s M=(Wq,16):=by simp_all [Wt]
        rw [e];exact we (by simp (disch:=omega) only [Wq,zShe,Zo,go_sem,seval])
       ·have e:Wt t sp k g d s M=(⟨max g.1 (nth sp k).opn+(nth sp k).serv,s+g.1-d,{ M with times_c:=false,times:=M.times++ [⟨g.1,max g.1 (nth sp k).opn,0,false⟩],miles:=M.miles+g.2.1 }⟩,0):=by simp_all [Wt,if_neg]
        rw [e];exact we
theorem Sp {x t sp k L b} (hs:0<sp.length) (hc:0<k->L.she.times_c=false) (he:(nxtF x t sp k L b).2=0):(nxtF x t sp k L b).1.she.times_c=false:=by
 have hm:0<k->(XX k (ZO t L b) b L.she).times_c=false:=fun h=>by rw [XX,if_neg Za];exact hc h
 unfold nxtF at he ⊢
 generalize Y8 x t sp k (ZO t L b)=g at *
 generalize ZO t L b=d at *
 generalize Wo L b=s at *
 generalize XX k d b L.she=m at *
 unfold Wt at he ⊢
 grind
structure LabO (n k:Nat) (L:Lab):Prop where
 rng:LabR k L
 len:k<=n->L.she.times.length=k
 clip:0<k->L.she.times_c=false
theorem Gg {x t sp k L b} (hok:TrpOk x t sp) (hs:0<sp.length) (hk:k<=sp.length) (h:LabO sp.length k L) (he:(nxtF x t sp k L b).2=0):LabO sp.length (k+1) (nxtF x t sp k L b).1 :=
 ⟨HQ hok hk h.rng he,fun hk2=>EF (h.len hk) he Za,fun _=>Sp hs h.clip he⟩
theorem Gh {x t sp} (hok:TrpOk x t sp) {st:Int} (hst:0<=st/\st<=4096):LabO sp.length 0 (labF t st) :=
 ⟨⟨by have:=hok.opn;grind [labF],by simp [labF],by simp [labF,zShe]⟩,fun _=>rfl,fun h=>Za⟩
theorem Po (x:Inst) (t:Typ) (r:Rte) (c:Bool) (sp:List Stp) (hok:TrpOk x t sp) (k:Nat) (hk:k<=sp.length) (hs1:0<sp.length) (L:Lab) (hL:LabO sp.length k L) (b:Bool) :
  PT 295 [.p (I3 x t r c sp),.p (Q7 L),.p (.int .i64 (k:Nat)),.p (.bool b)] [.p (Q7 (nxtF x t sp k L b).1),.p (.int .i64 (nxtF x t sp k L b).2)] :=
 Zbd x t r c sp hok k hk hs1 L hL.rng (hL.len hk) hL.clip b
theorem ZhN (x:Inst) (t:Typ) (r:Rte) (c:Bool) (sp:List Stp) (hok:TrpOk x t sp) (hs1:0<sp.length) (hst:0<=r.start/\r.start<=4096) (bs:List Bool) (d:Bool) (hb:bs.length=sp.length+1) :
  PT 272 [.p (I3 x t r c sp),.p (.list d (bs.map eB))] [.p (D8 (Xu x t sp 0 (labF t r.start) bs).1.she),.p (.int .i64 (Xu x t sp 0 (labF t r.start) bs).2)]:=by
 have hsl:=hok.len;refine Zf [] Tryz.func272 rfl zX ?_;simp (disch:=omega) only [Tryz.f272,go_sem,seval];refine (FV x t r c sp).use (Wp ?_)
 refine Zk [2,4,6,13,14] (fun q:Nat×Lab=> [(15,.p (.int .i64 q.1))]) (fun q=> [YL x t r c sp,.cells [.p (.bool false),.p (.int .i64 0),.p (.list true []),.p (.int .i64 0),.p (.int .i64 0)],Wv q.2])
  (fun q=>q.1<=bs.length/\Xu x t sp 0 (labF t r.start) bs=Xu x t sp q.1 q.2 (bs.drop q.1)/\LabO sp.length q.1 q.2) (fun q=>bs.length-q.1) (0,labF t r.start) ⟨Zb,Zb,Gh hok hst⟩ (Weak.mk ?_) ?_
 ·simp (disch:=omega) only [YL,Wv,go_sem,seval]
 ·rintro ⟨k,L⟩ ⟨hk,hrun,hL⟩;simp only at hk hrun hL;simp (disch:=omega) only [YL,Wv,go_sem,seval];refine cD ?_ ?_<;>intro h1<;>simp (disch:=omega) only [Sh.out h1,go_sem,seval,↓reduceIte]
  ·have hk2:k<bs.length:=Za
   have hdrop:bs.drop k=nth bs k::bs.drop (k+1):=by rw [Uv hk2,Ze hk2]
   rw [hdrop,Xu] at hrun;have cn:=Po x t r c sp hok k Za hs1 L hL (nth bs k);have hL2:=Gg (x:=x) (t:=t) (b:=nth bs k) hok hs1 Za hL
   generalize nxtF x t sp k L (nth bs k)=N at *
   refine X2 cn (Wp ?_);refine ZP ?_ ?_<;>intro h2
   ·rw [hrun,if_neg h2];exact we (by simp (disch:=omega) only [Wq,zShe,Zo,go_sem,seval])
   ·rw [if_pos Za] at hrun;exact ⟨(k+1,N.1),⟨Za,hrun,hL2 Za⟩,Za,wk⟩
  ·have hkl:k=bs.length:=Za
   subst hkl;rw [U0,Xu] at hrun;rw [hrun];exact we
theorem kY (l m:Lab):PC 298 [.p (Q7 l),.p (Q7 m)] (.bool (Z9 l m)):=by
 refine Zc Tryz.func298 rfl Zau ?_;simp (disch:=omega) only [Tryz.f298,go_sem,seval];refine gT ?_ ?_<;>intro h<;>simp (disch:=omega) only [Sh.out h,go_sem,seval,↓reduceIte]
 ·simp [Z9,h]
 ·simp [Z9,h]
def gH (x:Inst) (t:Typ) (r:Rte) (c:Bool) (sp:List Stp) (o:List Lab) (f z:Lab):List AM.Obj:= [YL x t r c sp,.dead,.elems 7 (o.map Q7),Wv f,Wv z]
theorem mP (x:Inst) (t:Typ) (r:Rte) (c:Bool) (sp:List Stp) (o:List Lab) (f z m:Lab):ACalls Tryz.prog 297 [.p (Q7 m),.ptr 4 0] (gH x t r c sp o f z) fun y H'=>y= .p (.bool (Z9 m z))/\H'=gH x t r c sp o f z:=by
 refine Zf [] Tryz.func297 rfl Zat ?_;simp (disch:=omega) only [Tryz.f297,gH,YL,Wv,go_sem,seval];refine (kY m z).use (Wp ?_);exact we
theorem Nx (x:Inst) (t:Typ) (r:Rte) (c:Bool) (sp:List Stp) (o:List Lab) (f z:Lab) (hl:o.length<=2097152) :
  ACalls Tryz.prog 314 [.sl 2 0 o.length o.length,.fn (.func 297) [] [.ptr 4 0]] (gH x t r c sp o f z) fun y H'=>y= .p (.int .i64 (rV (fun m=>Z9 m z) o))/\H'=gH x t r c sp o f z:=by
 refine Zf [] Tryz.func314 rfl ZaJ ?_;simp (disch:=omega) only [Tryz.f314,gH,YL,Wv,go_sem,seval];refine Zk [0,1,7] (fun k:Nat=> [(8,.p (.int .i64 k))]) (fun _=>gH x t r c sp o f z) (fun k=>k<=o.length/\ ∀j,j<k->Z9 (nth o j) z=false) (fun k=>o.length-k) 0 Zb (Weak.mk ?_) ?_
 ·simp (disch:=omega) only [gH,YL,Wv,go_sem,seval,↓reduceIte]
 ·rintro k ⟨hk,hno⟩;simp (disch:=omega) only [gH,YL,Wv,go_sem,seval];refine cD ?_ ?_<;>intro h<;>simp (disch:=omega) only [Sh.out h,go_sem,seval,↓reduceIte]
  ·have hk2:k<o.length:=Za
   have hg:=mP x t r c sp o f z (nth o k);simp (disch:=first | omega | (simp only [Zz,ZQ,Zw,Zv,ZE,ZK]<;>omega)) only [Wn hk2,hk2,go_sem,seval,↓reduceIte];simp (disch:=omega) only [gH,YL,Wv,go_sem,seval] at hg;refine hg.useH (Wp ?_);refine cD ?_ ?_<;>intro h2<;>simp (disch:=omega) only [Sh.out h2,go_sem,seval,↓reduceIte]
   ·rw [cW (f:=fun m=>Z9 m z) hk2 h2 hno];exact we
   ·exact ⟨k+1,⟨Za,Zm.2 ⟨hno,Za⟩⟩,Za,wk⟩
  ·have hkl:k=o.length:=Za
   subst hkl;rw [cY hno];exact we
theorem Fv (x:Inst) (t:Typ) (r:Rte) (c:Bool) (sp:List Stp) (o:List Lab) (f z:Lab) (hl:o.length<=2097152) :
  ACalls Tryz.prog 296 [.sl 2 0 o.length o.length,.fn (.func 297) [] [.ptr 4 0]] (gH x t r c sp o f z) fun y H'=>y= .p (.bool (o.any fun m=>Z9 m z))/\H'=gH x t r c sp o f z:=by
 refine Zf [] Tryz.func296 rfl Zas ?_;simp (disch:=omega) only [Tryz.f296,go_sem,seval];refine (Nx x t r c sp o f z hl).useH (Wp ?_);rw [cX];exact we (by simp (disch:=omega) only [gH,YL,Wv,go_sem,seval])
def Ce (x:Inst) (t:Typ) (sp:List Stp) (r:List Bool) (k:Nat) (f:Lab) (bs:List Bool) (l:List Lab):List Lab:=bs.filterMap (XM x t sp k f)++WS (XM x t sp) (VU r) k l
theorem vX (x:Inst) (t:Typ) (r:Rte) (c:Bool) (sp:List Stp) (hok:TrpOk x t sp) (hs1:0<sp.length) (k:Nat) (hk:k<=sp.length) (hrl:r.rests.length<=1048576) (l:List Lab) (d:Bool) (hl:l.length<=1048576) (hL: ∀L∈l,LabO sp.length k L) :
  PC 271 [.p (I3 x t r c sp),.p (.list d (l.map Q7)),.p (.int .i64 (k:Nat))] (.list false ((XU Z9 [] (WS (XM x t sp) (VU r.rests) k l)).map Q7)):=by
 have hsl:=hok.len;refine Zf [2,16] Tryz.func271 rfl zW ?_;simp (disch:=omega) only [Tryz.f271,go_sem,seval];refine Zr (Weak.fz (o:=1) (by rfl)) (Aq ?_);refine ZI [1,2,3] (fun cb:Bool=> [(7,.p (.list cb ((VU r.rests k).map eB)))]) (fun _=> [YL x t r c sp,.dead]) (fun _=>True) ?_ ?_
 ·refine Wp ?_;refine ZP ?_ ?_<;>intro h
  ·have hk2:k<r.rests.length:=Za
   have e:VU r.rests k=(r.rests.take (k+1)).drop k:=by
    grind [VU,Xm]
   exact ⟨r.rests_c&&decide ((k:Int)+1=(r.rests.length:Int)),Weak.mk (by simp (disch:=omega) only [YL,e,go_sem,seval])⟩
  ·have e:VU r.rests k= [false,true]:=by grind [VU]
   exact ⟨false,Weak.mk (by simp (disch:=omega) only [YL,e,ZG,Zo,go_sem,seval])⟩
 ·intro cb _
  have hch:(VU r.rests k).length<=2:=by grind [VU]
  refine Zg [16] _ _ _ _ ?_;simp (disch:=omega) only [YL,go_sem,seval]
  refine Xc [16] [2,3,7,29,30] (fun q:Nat×List Lab=> [(8,.sl 2 0 q.2.length q.2.length),(31,.p (.int .i64 q.1))]) (fun q=> [YL x t r c sp,.dead,.elems 7 (q.2.map Q7)])
   (fun q=>q.1<=l.length/\XU Z9 [] (WS (XM x t sp) (VU r.rests) k l)=XU Z9 q.2 (WS (XM x t sp) (VU r.rests) k (l.drop q.1))/\q.2.length<=2*q.1) (fun q=>l.length-q.1) (0,[]) Zb (Weak.ofNil 8 7 rfl Zb (Weak.mk ?_)) ?_
  ·simp (disch:=omega) only [YL,Zo,ZQ,go_sem,seval]
  ·rintro ⟨i,o⟩ ⟨hi,hpr,hol⟩;simp only at hi hpr hol;simp (disch:=omega) only [YL,go_sem,seval];refine cD ?_ ?_<;>intro h1<;>simp (disch:=omega) only [Sh.out h1,go_sem,seval,↓reduceIte]
   ·have hi2:i<l.length:=Za
    have hLi:=hL _ (ZD hi2)
    have hdrop:l.drop i=nth l i::l.drop (i+1):=by rw [Uv hi2,Ze hi2]
    rw [hdrop] at hpr;have hpr:XU Z9 [] (WS (XM x t sp) (VU r.rests) k l)=XU Z9 o (Ce x t sp r.rests k (nth l i) ((VU r.rests k).drop 0) (l.drop (i+1))):=hpr
    refine Zk [2,3,7,10,29,30,31,35,36] (fun q:Nat×List Lab=> [(8,.sl 2 0 q.2.length q.2.length),(37,.p (.int .i64 q.1))]) (fun q=> [YL x t r c sp,.dead,.elems 7 (q.2.map Q7),Wv (nth l i)])
     (fun q=>q.1<=(VU r.rests k).length/\XU Z9 [] (WS (XM x t sp) (VU r.rests) k l)=XU Z9 q.2 (Ce x t sp r.rests k (nth l i) ((VU r.rests k).drop q.1) (l.drop (i+1)))/\q.2.length<=2*i+q.1) (fun q=>(VU r.rests k).length-q.1) (0,o) ⟨Zb,hpr,hol⟩ (Weak.mk ?_) ?_
    ·simp (disch:=omega) only [YL,Wv,go_sem,seval]
    ·clear hpr hol;rintro ⟨j,o⟩ ⟨hj,hpr,hol⟩;simp only at hj hpr hol;simp (disch:=omega) only [YL,Wv,go_sem,seval];refine ZP ?_ ?_<;>intro h2
     ·have hj2:j<(VU r.rests k).length:=Za
      have hd2:(VU r.rests k).drop j=nth (VU r.rests k) j::(VU r.rests k).drop (j+1):=by rw [Uv hj2,Ze hj2]
      have cn:=Po x t r c sp hok k hk hs1 (nth l i) hLi (nth (VU r.rests k) j);have ho2:XM x t sp k (nth l i) (nth (VU r.rests k) j)=if (nxtF x t sp k (nth l i) (nth (VU r.rests k) j)).2=0 then some (nxtF x t sp k (nth l i) (nth (VU r.rests k) j)).1 else none:=rfl;rw [hd2,Ce,List.filterMap_cons,ho2] at hpr
      generalize nxtF x t sp k (nth l i) (nth (VU r.rests k) j)=N at *
      refine X2 cn (Wp ?_);refine QB ?_ ?_<;>intro h3
      ·have hcl:=Fv x t r c sp o (nth l i) N.1 Za;simp (disch:=omega) only [gH,YL,Wv,go_sem,seval] at hcl;refine hcl.useH (Wp ?_);rw [if_pos h3] at hpr;have hpr:XU Z9 [] (WS (XM x t sp) (VU r.rests) k l)=if (o.any fun m=>Z9 m N.1)=true then XU Z9 o (Ce x t sp r.rests k (nth l i) ((VU r.rests k).drop (j+1)) (l.drop (i+1))) else XU Z9 (o++ [N.1]) (Ce x t sp r.rests k (nth l i) ((VU r.rests k).drop (j+1)) (l.drop (i+1))):=hpr;refine ZP ?_ ?_<;>intro h4
       ·rw [if_neg (by grind)] at hpr;exact ⟨(j+1,o++ [N.1]),⟨Za,hpr,by simp;omega⟩,Za,Weak.mk (by simp (disch:=omega) only [Zw,Zz,ZQ,XY,ZG,Zo,go_sem,seval])⟩
       ·rw [if_pos (by grind)] at hpr;exact ⟨(j+1,o),⟨Za,hpr,by grind⟩,Za,wk⟩
      ·rw [if_neg h3] at hpr;exact ⟨(j+1,o),⟨Za,hpr,by grind⟩,Za,wk⟩
     ·have hjl:j=(VU r.rests k).length:=Za
      subst hjl;rw [U0,Ce,List.filterMap_nil,Xh] at hpr;exact ⟨(i+1,o),⟨Za,hpr,by grind⟩,Za,wk⟩
   ·have hil:i=l.length:=Za
    subst hil;have e:WS (XM x t sp) (VU r.rests) k []= []:=rfl;rw [U0,e,XU] at hpr;rw [hpr];refine Zr (Weak.fz (o:=2) (by rfl)) (Zg [] _ _ _ _ (Aq ?_));exact we
def lX : PV:= .agg [.list true [],.list true [],.list true [],.list true [],.list true [],.list true [],.str [],.int .i64 0,.int .i64 0,.int .i64 0,.list true [],.int .i64 0,.int .i64 0,.int .i64 0,.int .i64 0,.int .i64 0,.int .i64 0,.int .i64 0,.int .i64 0,.int .i64 0,.int .i64 0,.int .i64 0,.list true [],.list true [],.list true []]
theorem nU (x:Inst) (r:Rte) (hty:0<=r.typ/\r.typ<(x.types.length:Int)) (htl:x.types.length<=1048576) (hvl:r.visits.length<=20) (hs: ¬(0<=r.start/\r.start<=4096)) :
  PT 269 [.p (ZF x),.p (WA r)] [.p lX,.p (.bool false)]:=by
 have e1: ¬r.typ<0:=Za
 have e2: ¬(x.types.length:Int)<=r.typ:=Za
 refine Zf [] Tryz.func269 rfl dL ?_;simp (disch:=omega) only [Tryz.f269,e1,e2,go_sem,seval];refine gF ?_ ?_<;>intro h1<;>simp (disch:=omega) only [Sh.out h1,go_sem,seval,↓reduceIte]
 ·exact we (by simp (disch:=omega) only [lX,go_sem,seval])
 ·refine gF ?_ ?_<;>intro h2<;>simp (disch:=omega) only [Sh.out h2,go_sem,seval,↓reduceIte]
  ·exact we (by simp (disch:=omega) only [lX,go_sem,seval])
  ·omega
theorem L7 {x t sp} : ∀(bs:List Bool) (k:Nat) (L:Lab),¬(Xu x t sp k L bs).2=0->(Xu x t sp k L bs).1=Wq
 | [],k,L,h=>by simp [Xu] at h
 | b::bs,k,L,h=>by
  rw [Xu] at h ⊢
  split
  ·rename_i c;rw [if_pos c] at h;exact L7 bs (k+1) _ h
  ·rfl
theorem RZ (n:Nat):List.replicate n false∈Y5 (List.replicate n false):=by
 rw [fromB_next];simp
theorem cM {l:List Lab} (h:Vj Wd none l=none):l= []:=by
 cases l with
 | nil=>rfl
 | cons a l =>
  obtain ⟨z,hz,_⟩:=QF (fin:=Wd) l a;have:Vj Wd none (a::l)=Vj Wd (some a) l:=rfl
  grind
theorem Rw {x t sp} {st:Int} {r:List Bool} (h:Vj Wd none ((Y1 r (sp.length+1)).filterMap (Vi (XM x t sp) 0 (labF t st)))=none): ¬(Xu x t sp 0 (labF t st) (Y9 r (sp.length+1))).2=0:=fun h0=>by
 have h1:=cM h;have h2:Y9 r (sp.length+1)∈Y1 r (sp.length+1):=XD.2 ⟨_,RZ _,rfl⟩
 simp_all [VJ]
theorem Na {x t sp} {st:Int} {r:List Bool} (hr:r.length<=sp.length+1) (h:Vj Wd none (JF Z9 (XM x t sp) (VU r) (sp.length+1) 0 [labF t st])=none): ¬(Xu x t sp 0 (labF t st) (Y9 r (sp.length+1))).2=0 :=
 Rw (by rw [Gi,Vb,F4 r _ hr] at h;exact h)
def QA (x:Inst) (r:Rte):She×Int:=if 0<=r.start/\r.start<=4096/\r.rests.length<=r.visits.length+1 then Xp x r else (zShe,2)
theorem aH {x t sp} {ch:Nat->List Bool} {k:Nat} {l:List Lab} (hok:TrpOk x t sp) (hs:0<sp.length) (hk:k<=sp.length) (h: ∀L∈l,LabO sp.length k L): ∀L∈XU Z9 [] (WS (XM x t sp) ch k l),LabO sp.length (k+1) L:=fun L hL=>by
 have h1:=K7 Z9 _ _ L hL;rw [Xh] at h1;obtain ⟨a,ha,hb⟩:=We.1 h1
 grind [XM,Gg]
theorem CD : ∀(c out:List Lab),(XU Z9 out c).length<=out.length+c.length
 | [],out=>by simp [XU]
 | x::c,out=>by
  rw [XU]
  split
  ·have:=CD c out;simp;omega
  ·have:=CD c (out++ [x]);simp at this ⊢;omega
theorem FY {x t sp} {r:List Bool} {k:Nat} : ∀l:List Lab,(WS (XM x t sp) (VU r) k l).length<=2*l.length
 | []=>by simp [WS]
 | a::l=>by
  have ih:=FY (x:=x) (t:=t) (sp:=sp) (r:=r) (k:=k) l;have h1:(WS (XM x t sp) (VU r) k (a::l))=(VU r k).filterMap (XM x t sp k a)++WS (XM x t sp) (VU r) k l:=rfl
  grind [VU]
theorem nP (x:Inst) (r:Rte) (hx:InstOk x) (hl:r.visits.length<=1048576) (hrl:r.rests.length<=1048576) (hty:0<=r.typ/\r.typ<(x.types.length:Int)) (h0:Xi x r.visits=0) :
  PT 221 [.p (ZF x),.p (WA r)] [.p (D8 (QA x r).1),.p (.int .i64 (QA x r).2)]:=by
 have hd:=UZ hx;have hsq:=Ua h0;have hol:=hd.ord;have htl:=hd.typ;have hvl:=hsq.len hol;have hok:=Kw hx hty hsq;have hsl:(Z8 x r.visits).length=r.visits.length:=Yi
 have hs1:0<(Z8 x r.visits).length:=by
  rw [hsl];have:=hsq.ne
  grind
 refine Zf [6,13,14] Tryz.func221 rfl yK ?_;simp (disch:=omega) only [Tryz.f221,go_sem,seval]
 by_cases hs:0<=r.start/\r.start<=4096
 ·refine X2 (Zbr x r hx hty h0 hs) (Wp ?_);refine cD ?_ ?_<;>intro h1<;>simp (disch:=omega) only [Sh.out h1,go_sem,seval,↓reduceIte]
  ·have e:QA x r=(zShe,2):=by rw [QA,if_neg Za]
   rw [e];exact we (by simp (disch:=omega) only [zShe,Zo,go_sem,seval])
  ·have hrs:r.rests.length<=r.visits.length+1:=Za
   have e:QA x r=Xp x r:=by simp_all [QA]
   have hbn:= @Na x (ZX x r) (Z8 x r.visits) r.start r.rests Za;rw [e,Xp,Hh Za];refine (FV x (ZX x r) r false (Z8 x r.visits)).use (Wp ?_)
   generalize hT:ZX x r=t at *
   generalize hS:Z8 x r.visits=sp at *
   refine Zr (Weak.fz (o:=4) (by rfl)) ?_;refine Zg [13,14] _ _ _ _ (Wp ?_)
   refine Xc [13,14] [3,4,6,8,38] (fun q:Nat×List Lab=> [(9,.p (.list false (q.2.map Q7))),(39,.p (.int .i64 q.1))]) (fun _=> [Zj x,Xb r,.cells [.p (.bool false),.p (.int .i64 0),.p (.list true []),.p (.int .i64 0),.p (.int .i64 0)],YL x t r false sp,.dead])
    (fun q=>q.1<=sp.length+1/\JF Z9 (XM x t sp) (VU r.rests) (sp.length+1) 0 [labF t r.start]=JF Z9 (XM x t sp) (VU r.rests) (sp.length+1-q.1) q.1 q.2/\(∀L∈q.2,LabO sp.length q.1 L)/\q.2.length<=2^q.1) (fun q=>sp.length+1-q.1) (0,[labF t r.start]) ⟨Zb,Zb,fun L hL=>by grind [Gh],Zb⟩ (Weak.mk ?_) ?_
   ·simp (disch:=omega) only [Zj,Xb,YL,ZG,Zo,Xo,ZC,go_sem,seval]
   ·rintro ⟨k,l⟩ ⟨hk,hit,hlo,hll⟩;simp only at hk hit hlo hll;simp (disch:=omega) only [Zj,Xb,YL,go_sem,seval];refine cD ?_ ?_<;>intro h2<;>simp (disch:=omega) only [Sh.out h2,go_sem,seval,↓reduceIte]
    ·have hk2:k<=sp.length:=Za
     have hp20:2^k<=2^20:=Ys Za Za;refine (vX x t r false sp hok hs1 k hk2 hrl l false Za hlo).use (Wp ?_)
     have hn:JF Z9 (XM x t sp) (VU r.rests) (sp.length+1-k) k l=JF Z9 (XM x t sp) (VU r.rests) (sp.length+1-(k+1)) (k+1) (XU Z9 [] (WS (XM x t sp) (VU r.rests) k l)):=by
      have e:sp.length+1-k=(sp.length+1-(k+1))+1:=Za
      rw [e,JF]
     have hln:=CD (WS (XM x t sp) (VU r.rests) k l) [];have hln2:=FY (x:=x) (t:=t) (sp:=sp) (r:=r.rests) (k:=k) l;exact ⟨(k+1,XU Z9 [] (WS (XM x t sp) (VU r.rests) k l)),⟨Za,hit.trans hn,aH hok hs1 hk2 hlo,by grind⟩,Za,Weak.mk (by simp (disch:=omega) only [Xo,ZC,go_sem,seval])⟩
    ·have hkn:k=sp.length+1:=Za
     subst hkn;rw [Nat.sub_self,JF] at hit;rw [hit] at hbn ⊢;clear hit;refine cD ?_ ?_<;>intro h3<;>simp (disch:=omega) only [Sh.out h3,go_sem,seval,↓reduceIte]
     ·have hl0:l= []:=Z7 Za;subst hl0;have hbn:=hbn rfl;refine UW (Dj 3 rfl rfl (Wp ?_));refine ⟨_,_,LM (e:=4) rfl Tryz.underlying46 Zd rfl rfl rfl ?_ ?_ ?_,?_⟩
      ·simp
      ·simp;omega
      ·intro q hq;obtain ⟨b,_,rfl⟩:=XD.1 hq
       rfl
      ·have hpl:(Y9 r.rests (sp.length+1)).length=sp.length+1:=by simp [Y9];omega
       have hpad:r.rests.map eB++(PV.bool false::List.replicate r.visits.length (PV.bool false)).drop (r.rests.map eB).length=(Y9 r.rests (sp.length+1)).map eB:=by
        rw [Y9,XY,<- AI,List.drop_replicate,Bx,hsl,Zv];rfl
       have hcr:=ZhN x t r false sp hok hs1 hs (Y9 r.rests (sp.length+1)) false hpl;have hbad:=L7 _ _ _ hbn;rw [hbad] at hcr;simp only [Xo,ZC];rw [hpad]
       generalize hRP:Y9 r.rests (sp.length+1)=rp at *
       refine Zr (Weak.fz (o:=5) (by rfl)) (Zg [] _ _ _ _ (Aq ?_));rw [if_pos Za];refine X2 hcr (Wp ?_);have hfm0:Vj Wd none ([]:List Lab)=none:=rfl;rw [hfm0];exact we (by simp (disch:=omega) only [Wq,zShe,Zo,go_sem,seval])
     ·cases l with
      | nil=>simp at h3
      | cons l0 l =>
       have e0:Qw ((l0::l).map Q7) 0=Q7 l0:=rfl;have hn0:nth (l0::l) 0=l0:=rfl;simp (disch:=first | omega | (simp only [Zz,ZQ,Zw,Zv,ZE,ZK]<;>omega)) only [hn0,Yb,go_sem,seval];have hfm:Vj Wd none (l0::l)=Vj Wd (some l0) l:=rfl;rw [hfm]
       have hlen:l.length<=2097152:=by
        have hp20:2^(sp.length+1)<=2^21:=Ys Za Za
        grind
       refine Zk [4,12,65,66] (fun q:Nat×Lab=> [(67,.p (.int .i64 q.1))]) (fun q=> [Zj x,Xb r,.cells [.p (.bool false),.p (.int .i64 0),.p (.list true []),.p (.int .i64 0),.p (.int .i64 0)],YL x t r false sp,.dead,Wv q.2])
        (fun q=>q.1<=l.length/\Vj Wd (some l0) l=Vj Wd (some q.2) (l.drop q.1)) (fun q=>l.length-q.1) (0,l0) Zb (Weak.mk ?_) ?_
       ·simp (disch:=omega) only [Zj,Xb,YL,Wv,go_sem,seval]
       ·rintro ⟨i,m⟩ ⟨hi,hm⟩;simp only at hi hm;simp (disch:=omega) only [Zj,Xb,YL,Wv,go_sem,seval];refine cD ?_ ?_<;>intro h4<;>simp (disch:=omega) only [Sh.out h4,go_sem,seval,↓reduceIte]
        ·have hi2:i<l.length:=Za
         have hdrop:l.drop i=nth l i::l.drop (i+1):=by rw [Uv hi2,Ze hi2]
         rw [hdrop,Vj] at hm;refine ZP ?_ ?_<;>intro h5
         ·rw [if_pos (show Wd (nth l i)<Wd m from h5)] at hm;exact ⟨(i+1,nth l i),⟨Za,hm⟩,Za,wk⟩
         ·rw [if_neg (show ¬Wd (nth l i)<Wd m from h5)] at hm;exact ⟨(i+1,m),⟨Za,hm⟩,Za,wk⟩
        ·have hil:i=l.length:=Za
         subst hil;rw [U0,Vj] at hm;rw [hm];exact we
 ·have e:QA x r=(zShe,2):=by rw [QA,if_neg (fun h=>hs ⟨h.1,h.2.1⟩)]
  rw [e];refine X2 (nU x r hty htl hvl hs) ?_;simp (disch:=omega) only [lX,go_sem,seval];exact we (by simp (disch:=omega) only [zShe,Zo,go_sem,seval])
end Go.Proofs.YtiigdaohjanidaaGreatDoor.K
namespace Go.AM
open Go.RowKit
theorem eO (k v:Int) (l:List (Int×Int)): ∃l',eM (.int .i64 k) (.int .i64 v) (l.map eII)=l'.map eII/\(∀q,J7 l' q=if q=k then v else J7 l q)/\l'.length<=l.length+1:=by
 unfold eM;rw [Cs]
 cases hm:Gt l k with
 | none =>
  refine ⟨l++ [(k,v)],by simp [eII],fun q=> ?_,Zb⟩
  have e1:Gt (l++ [(k,v)]) k=some l.length:=by
   grind [Gt]
  by_cases hq:q=k
  ·grind [J7]
  ·rw [if_neg hq];unfold J7
   have e3:Gt (l++ [(k,v)]) q=Gt l q:=by
    grind [Gt]
   rw [e3]
   cases hc:Gt l q with
   | none=>rfl
   | some i =>
    unfold Gt at hc
    grind [VO]
 | some i =>
  refine ⟨l.set i (k,v),by simp_all [eII],?_,Zb⟩;have hH:oat [.map (l.map eII)] 0= .map (l.map eII):=rfl;have:=NE (H:= [.map (l.map eII)]) (o:=0) (l:=l) (k:=k) (i:=i) (v:=v) (K:=fun _ _=> ∀q,J7 (l.set i (k,v)) q=if q=k then v else J7 l q) hH hm fun h=>h;unfold KC at this;obtain ⟨u,q1,_⟩:=Ey hm
  simp_all [Ao]
theorem eQ {P:Program} {H:List Obj} {t:TypeId} {o:Nat} {l:List (Int×Int)} {k v:Int} {K:V->List Obj->Prop} (hT:eD P t=some (.int .i64,some (.int .i64 0))) (hH:oat H o= .map (l.map eII))
  (h: ∀l':List (Int×Int),(∀q,J7 l' q=if q=k then v else J7 l q)->K .junk (H.set o (.map (l'.map eII)))):Ao (CU P H t (.mp o) (.p (.int .i64 k)) (.p (.int .i64 v))) K:=by
 obtain ⟨kt,et,h1,h2,h3⟩:=LC hT;obtain ⟨l',e,hg,_⟩:=eO k v l
 grind [CU,Gl,Ao]
end Go.AM
namespace Go.Proofs.YtiigdaohjanidaaGreatDoor.K
open Go Go.AM Go.Proofs
set_option maxRecDepth 8000
set_option maxHeartbeats 8000000
def D6 (l:List Vis) (k:Nat) (q:Int):Int:=((l.take k).countP fun v=>decide (v.order=q):Nat)
theorem RH {l:List Vis} {k:Nat} (h:k<l.length) (q:Int):D6 l (k+1) q=if q=(nth l k).order then D6 l k q+1 else D6 l k q:=by
 unfold D6;rw [Xm h,List.countP_append,Ze h]
 grind
theorem bB {l:List Vis} {k:Nat} (h:k<=l.length) (q:Int):0<=D6 l k q/\D6 l k q<=k:=by
 grind [D6,ZE]
theorem Ni {l:List Vis} {k:Nat} :W3 l k=decide (D6 l k (nth l k).order=0):=by
 unfold W3 D6;rw [YY];simp
theorem AK (a b:Int):PC 273 [.p (.int .i64 a),.p (.int .i64 b)] (.bool (ZT a b)):=by
 refine Zc Tryz.func273 rfl zY ?_;simp (disch:=omega) only [Tryz.f273,go_sem,seval];refine gT ?_ ?_<;>intro h<;>simp (disch:=omega) only [Sh.out h,go_sem,seval,↓reduceIte]
 ·simp [ZT,h]
 simp_all [ZT]
theorem fR (x:Inst) (r:Rte) (s:She) (hty:0<=r.typ/\r.typ<(x.types.length:Int)) (ho:x.orders.length<=1048576) (ht:x.types.length<=1048576) (hl:r.visits.length<=1048576) (hv:Inr x r.visits)
  (hc:0<=(ZX x r).fixed/\(ZX x r).fixed<=100000/\0<=(ZX x r).perMile/\(ZX x r).perMile<=100/\0<=(ZX x r).perTick/\(ZX x r).perTick<=100) (ho2:0<=(ZX x r).opn/\(ZX x r).opn<=4096)
  (hf: -4096<=s.fin/\s.fin<=8192) (hm:0<=s.miles/\s.miles<=1000000) :
  PC 222 [.p (ZF x),.p (WA r),.p (D8 s)] (Bb (Zep x r s)):=by
 have hti:r.typ.toNat<x.types.length:=Za
 have hT:eD Tryz.prog 334=some (.int .i64,some (.int .i64 0)):=Zd
 unfold Zep;have htd:nth x.types r.typ.toNat=ZX x r:=rfl
 generalize ZX x r=t at *
 have e1: ¬r.typ<0:=Za
 have e2: ¬(x.types.length:Int)<=r.typ:=Za
 have p1:0<=t.perMile*s.miles/\t.perMile*s.miles<=100*1000000:=⟨VQ Za Za,Vq Za Za Za Za⟩
 have hW: -8192<=s.fin-t.opn/\s.fin-t.opn<=8192:=Za
 have p2: -819200<=t.perTick*(s.fin-t.opn)/\t.perTick*(s.fin-t.opn)<=819200:=by
  generalize s.fin-t.opn=w at hW;have a1:=Cn hW.2 (show 0<=t.perTick by omega);have a2:=Cn hW.1 (show 0<=t.perTick by omega);omega
 have p3: -128<=(s.fin-t.opn).tdiv 64/\(s.fin-t.opn).tdiv 64<=128:=by
  grind
 have p4:0<=(s.fin-t.opn).tdiv 64*(s.fin-t.opn).tdiv 64/\(s.fin-t.opn).tdiv 64*(s.fin-t.opn).tdiv 64<=16384:=by
  generalize (s.fin-t.opn).tdiv 64=q at p3;refine ⟨?_,?_⟩
  ·rcases KY 0 q with h | h
   ·exact VQ h h
   ·exact Int.mul_nonneg_of_nonpos_of_nonpos h h
  ·rcases KY 0 q with h | h
   ·have:=Vq p3.2 p3.2 h Za;omega
   ·have h2:0<= -q:=Za
    have:=Vq (show-q<=128 by omega) (show-q<=128 by omega) h2 Za
    grind
 refine Zc Tryz.func222 rfl yL ?_;simp (disch:=omega) only [Tryz.f222,e1,e2,htd,go_sem,seval]
 refine Zk [3,4,6,10,11,59,60] (fun q:Nat×List (Int×Int)=> [(61,.p (.int .i64 q.1))]) (fun q=> [Zj x,Xb r,.cells [.p (.bool s.rest),.p (.int .i64 s.dep),.p (.list s.times_c (s.times.map eTim)),.p (.int .i64 s.fin),.p (.int .i64 s.miles)],V8 0 0 0 0,Yj t,V8 (t.fixed+t.perMile*s.miles+t.perTick*(s.fin-t.opn)) (chgF x r.visits r.typ q.1).1 (chgF x r.visits r.typ q.1).2 ((s.fin-t.opn).tdiv 64*(s.fin-t.opn).tdiv 64),.map (q.2.map eII)])
  (fun q=>q.1<=r.visits.length/\ ∀n,J7 q.2 n=D6 r.visits q.1 n) (fun q=>r.visits.length-q.1) (0,[]) ⟨Zb,fun n=>rfl⟩ (Weak.mk ?_) ?_
 ·simp (disch:=omega) only [Zj,Xb,Yj,V8,chgF,go_sem,seval]
 ·rintro ⟨k,m⟩ ⟨hk,hmg⟩;simp only at hk hmg;have hch:=A4 (x:=x) (l:=r.visits) (t:=r.typ) k;simp (disch:=omega) only [Zj,Xb,Yj,V8,go_sem,seval];refine cD ?_ ?_<;>intro h1<;>simp (disch:=omega) only [Sh.out h1,go_sem,seval,↓reduceIte]
  ·have hk2:k<r.visits.length:=Za
   obtain ⟨v1,v2⟩:=hv _ (Zq hk2)
   have e3: ¬(nth r.visits k).order<0:=Za
   have e4: ¬(x.orders.length:Int)<=(nth r.visits k).order:=Za
   have v3:(nth r.visits k).order.toNat<x.orders.length:=Za
   have hcs:=RH hk2;have hcr:=bB hk (nth r.visits k).order;have hfi:=Ni (l:=r.visits) (k:=k);have hch2:chgF x r.visits r.typ (k+1)=_:=chgF.eq_2 x r.visits r.typ k;refine Lz hT rfl ?_;rw [hmg];refine Wp ?_;refine eQ hT rfl fun m' hm'=> ?_
   have hmg': ∀n,J7 m' n=D6 r.visits (k+1) n:=fun n=>by grind
   simp (disch:=omega) only [e3,e4,Xo,ZC,go_sem,seval];refine Lz hT rfl ?_;rw [hm',if_pos rfl];refine Wp ?_;refine ZP ?_ ?_<;>intro h2
   ·have h3: ¬W3 r.visits k=true:=by grind
    rw [if_neg h3] at hch2;exact ⟨(k+1,m'),⟨Za,hmg'⟩,Za,Weak.mk (by simp (disch:=omega) only [hch2,go_sem,seval])⟩
   ·have h3:W3 r.visits k=true:=by grind
    rw [if_pos h3] at hch2;refine (AK (nth x.orders (nth r.visits k).order.toNat).now r.typ).use (Wp ?_);refine cD ?_ ?_<;>intro h4<;>simp (disch:=omega) only [Sh.out h4,go_sem,seval,↓reduceIte]
    ·rw [if_pos h4] at hch2;refine (AK (nth x.orders (nth r.visits k).order.toNat).last r.typ).use (Wp ?_);refine ZP ?_ ?_<;>intro h5
     ·rw [if_pos h5] at hch2;exact ⟨(k+1,m'),⟨Za,hmg'⟩,Za,Weak.mk (by simp (disch:=omega) only [hch2,go_sem,seval])⟩
     ·rw [if_neg (by rw [h5];simp)] at hch2;exact ⟨(k+1,m'),⟨Za,hmg'⟩,Za,Weak.mk (by simp (disch:=omega) only [hch2,VR,go_sem,seval])⟩
    ·rw [if_neg (by rw [h4];simp)] at hch2;refine (AK (nth x.orders (nth r.visits k).order.toNat).last r.typ).use (Wp ?_);refine ZP ?_ ?_<;>intro h5
     ·rw [if_pos h5] at hch2;exact ⟨(k+1,m'),⟨Za,hmg'⟩,Za,Weak.mk (by simp (disch:=omega) only [hch2,VR,go_sem,seval])⟩
     ·rw [if_neg (by rw [h5];simp)] at hch2;exact ⟨(k+1,m'),⟨Za,hmg'⟩,Za,Weak.mk (by simp (disch:=omega) only [hch2,VR,go_sem,seval])⟩
  grind
end Go.Proofs.YtiigdaohjanidaaGreatDoor.K
namespace Go.Proofs.YtiigdaohjanidaaGreatDoor.K
open Go Go.AM Go.Proofs
set_option maxRecDepth 8000
set_option maxHeartbeats 8000000
@[go_sem] theorem ZcW {f:FuncId} :(PV.fn f).cells= [.fn f]:=Zh rfl rfl
def ZbE : AM.Obj:= .cells [.p (.bool false),.p (.int .i64 0),.p (.list true []),.p (.int .i64 0),.p (.int .i64 0)]
theorem Nm (x:Inst) (r:Rte) (hx:InstOk x) (hl:r.visits.length<=1048576) (hrl:r.rests.length<=1048576):ACalls Tryz.prog 164 [.p (ZF x),.p (WA r)] [] fun y H'=>y=Bc x r/\H'= []:=by
 have hld:=UZ hx;have htl:=hld.typ;have hol:=hld.ord;have chk:=fS x r hx hl
 have htb:x.types.length<=6:=by have:=hx.types.1;simp only [rng,Zl] at this;omega
 refine Zf [] Tryz.func164 rfl xM ?_;simp (disch:=omega) only [Tryz.f164,go_sem,seval];refine gF ?_ ?_<;>intro h1<;>simp (disch:=omega) only [Sh.out h1,go_sem,seval,↓reduceIte]
 ·have e:Yg x r=2:=by rw [Yg,if_pos Za]
  rw [Yo (e:=2) (by rw [Z4,e];rfl) Za];exact we (by simp (disch:=omega) only [zShe,zSco,Zo,go_sem,seval])
 ·refine cD ?_ ?_<;>intro h2<;>simp (disch:=omega) only [Sh.out h2,go_sem,seval,↓reduceIte]
  ·have e:Yg x r=2:=by simp_all [Yg]
   rw [Yo (e:=2) (by rw [Z4,e];rfl) Za];exact we (by simp (disch:=omega) only [zShe,zSco,Zo,go_sem,seval])
  ·have hty:0<=r.typ/\r.typ<(x.types.length:Int):=Za
   have hti:r.typ.toNat<x.types.length:=Za
   have hnum:=VK hx hti;have htyp:nth x.types r.typ.toNat=ZX x r:=rfl;rw [htyp] at hnum
   have hsk: ∀o∈x.orders,o.skills<9223372036854775808:=fun o hm=>by
    obtain ⟨i,hi,rfl⟩:=ZN.1 hm;have:=(hx.orders.2 i hi).skills
    grind [Ze]
   refine Zk [2,3,4,5,25,26] (fun k:Nat=> [(27,.p (.int .i64 k))]) (fun _=> [Zj x,Xb r,ZbE,V8 0 0 0 0,.elems 1 [.fn 218,.fn 219,.fn 220]])
    (fun k=>k<=3/\(0<k->Xi x r.visits=0)/\(1<k-> ¬(r.visits.any fun v=> !Wz (ZX x r) (nth x.orders v.order.toNat).skills)=true)/\(2<k->U4 x (ZX x r).cap r.visits=true)) (fun k=>3-k) 0 ⟨Za,Za,Za,Za⟩ (Weak.mk ?_) ?_
   ·simp (disch:=omega) only [Zj,Xb,V8,ZbE,go_sem,seval]
   ·rintro k ⟨hk,k1,k2,k3⟩;simp (disch:=omega) only [Zj,Xb,V8,ZbE,go_sem,seval];refine cD ?_ ?_<;>intro h3<;>simp (disch:=omega) only [Sh.out h3,go_sem,seval,↓reduceIte]
    ·by_cases hk0:k=0
     ·subst hk0;have he:Qw [PV.fn 218,PV.fn 219,PV.fn 220] 0=PV.fn 218:=rfl;simp (disch:=first | omega | (simp only [Zz,ZQ,Zw,Zv,ZE,ZK]<;>omega)) only [he,go_sem,seval,↓reduceIte];refine (chk).use (Wp ?_);refine ZP ?_ ?_<;>intro h4
      ·have e:Yg x r=Xi x r.visits:=by simp_all [Yg]
       rw [Yo (e:=Xi x r.visits) (by simp_all [Z4]) h4];exact we (by simp (disch:=omega) only [zShe,zSco,Zo,go_sem,seval])
      ·exact ⟨1,⟨Za,fun _=>Za,Za,Za⟩,Za,wk⟩
     ·have h0:=k1 Za;have hsq:=Ua h0
      have hr0:Yg x r=if (r.visits.any fun v=> !Wz (ZX x r) (nth x.orders v.order.toNat).skills)=true then 18 else if U4 x (ZX x r).cap r.visits=false then 17 else if ¬(0<=r.start/\r.start<=4096/\r.rests.length<=r.visits.length+1) then 2 else 0:=by
       rw [Yg,if_neg (fun h=>h hty),if_neg Za]
      by_cases hk1:k=1
      ·subst hk1;have he:Qw [PV.fn 218,PV.fn 219,PV.fn 220] 1=PV.fn 219:=rfl;simp (disch:=first | omega | (simp only [Zz,ZQ,Zw,Zv,ZE,ZK]<;>omega)) only [he,go_sem,seval,↓reduceIte];refine (fQ x r hty (fun v hv=>by have:=hsq.inr v hv;grind [Lp]) hl htl Za Za hsk).use (Wp ?_)
       by_cases h5:(r.visits.any fun v=> !Wz (ZX x r) (nth x.orders v.order.toNat).skills)=true
       ·rw [if_pos h5] at hr0 ⊢;rw [Yo (e:=18) (by rw [Z4,hr0];rfl) Za];refine Wp ?_;exact we (by simp (disch:=omega) only [zShe,zSco,Zo,go_sem,seval])
       ·rw [if_neg h5];refine Wp ?_;exact ⟨2,⟨Za,fun _=>h0,fun _=>h5,Za⟩,Za,wk⟩
      ·have hk2:k=2:=Za
       subst hk2;have he:Qw [PV.fn 218,PV.fn 219,PV.fn 220] 2=PV.fn 220:=rfl;simp (disch:=first | omega | (simp only [Zz,ZQ,Zw,Zv,ZE,ZK]<;>omega)) only [he,go_sem,seval,↓reduceIte];refine (fN x r hx hl hty h0).use (Wp ?_);rw [if_neg (k2 Za)] at hr0
       cases h5:U4 x (ZX x r).cap r.visits with
       | false =>
        rw [if_pos h5] at hr0;rw [Yo (e:=17) (by rw [Z4,hr0];rfl) Za];simp only [Yn,Yv];refine Wp ?_;exact we (by simp (disch:=omega) only [zShe,zSco,Zo,go_sem,seval])
       | true =>
        simp only [if_true];refine Wp ?_;exact ⟨3,⟨Za,fun _=>h0,fun _=>k2 Za,fun _=>Zb⟩,Za,wk⟩
    ·have hk3:k=3:=Za
     subst hk3;have h0:=k1 Za;have hsq:=Ua h0
     have hr0:Yg x r=if ¬(0<=r.start/\r.start<=4096/\r.rests.length<=r.visits.length+1) then 2 else 0:=by
      rw [Yg,if_neg (fun h=>h hty),if_neg Za,if_neg (k2 Za),if_neg (by grind)]
     have cb:=nP x r hx hl hrl hty h0;have hok:=Kw hx hty hsq
     have hbr:QA x r=Xp x r->(Xp x r).2=0->(0<=r.start/\r.start<=4096/\r.rests.length<=r.visits.length+1)->(0<=(Xp x r).1.fin/\(Xp x r).1.fin<=8192)/\(0<=(Xp x r).1.miles/\(Xp x r).1.miles<=210000):=fun _ hz hs =>
      D2 hok ⟨hs.1,hs.2.1⟩ (by grind [Yi]) hz
     by_cases h6:0<=r.start/\r.start<=4096/\r.rests.length<=r.visits.length+1
     ·have e:Yg x r=0:=Za
      have ee:Z4 x r=(Xp x r).2:=by rw [Z4,if_pos e]
      have eb:QA x r=Xp x r:=by rw [QA,if_pos h6]
      have hbr:=fun hz=>hbr eb hz h6;rw [eb] at cb
      have es:Wr x r=if (Xp x r).2=0 then (Xp x r).1 else zShe:=by rw [Wr,ee]
      have ep:Xt x r=if (Xp x r).2=0 then Zep x r (Xp x r).1 else zSco:=by rw [Xt,ee]
      unfold Bc;rw [ee,es,ep];clear ee es ep eb
      generalize Xp x r=q at *
      obtain ⟨sh,eb⟩:=q;simp only at cb hbr ⊢;refine X2 cb (Wp ?_);refine cD ?_ ?_<;>intro h7<;>simp (disch:=omega) only [Sh.out h7,go_sem,seval,↓reduceIte]
      ·exact we (by simp (disch:=omega) only [zShe,zSco,Zo,go_sem,seval])
      ·have h7':eb=0:=Za
       try rw [if_pos h7',if_pos h7']
       subst h7';obtain ⟨g1,g2⟩:=hbr rfl;refine Z6 5 mixed Zd Zd (Wp ?_);refine Zp (fR x r sh hty Za htl hl hsq.inr hnum.2.2.2.1 Za Za Za) (Wp ?_);exact we
     ·have e:Yg x r=2:=Za
      have eb:QA x r=(zShe,2):=by rw [QA,if_neg h6]
      rw [Yo (e:=2) (by rw [Z4,e];rfl) Za];rw [eb] at cb;refine X2 cb (Wp ?_);exact we (by simp (disch:=omega) only [zShe,zSco,Zo,go_sem,seval])
theorem VB {x:Inst} {r:Rte} (h:Z4 x r=0):Yg x r=0:=by
 grind [Z4]
theorem Uh {x:Inst} {r:Rte} (h:Yg x r=0):(0<=r.typ/\r.typ<(x.types.length:Int))/\Xi x r.visits=0/\(0<=r.start/\r.start<=4096/\r.rests.length<=r.visits.length+1):=by
 unfold Yg at h;omega
theorem I5 {x:Inst} {r:Rte} (hx:InstOk x) (h:Z4 x r=0):(0<=(Wr x r).fin/\(Wr x r).fin<=8192)/\(0<=(Wr x r).miles/\(Wr x r).miles<=210000):=by
 obtain ⟨hty,h0,hs⟩:=Uh (VB h)
 have e:Wr x r=(Xp x r).1:=by rw [Wr,if_pos h]
 have ee:(Xp x r).2=0:=by rw [Z4,if_pos (VB h)] at h;exact h
 rw [e];exact D2 (Kw hx hty (Ua h0)) ⟨hs.1,hs.2.1⟩ (by grind [Yi]) ee
theorem Fb {x:Inst} (hx:InstOk x) (i:Int):UV 1073741824 (Xk x i).1:=by
 unfold Xk
 split
 ·simp [UV,zSco]
 ·split
  ·simp [UV,zSco]
  ·split
   ·simp [UV,zSco]
   ·have ha:=(hx.orders.2 i.toNat Za).arg;simp only [argOk,rng,Zt,Zl] at ha
    grind [UV]
theorem E1 {a b:Sco} {B C:Int} (ha:UV B a) (hb:UV C b):UV (B+C) (XV a b):=by
 grind [UV,XV]
theorem YW {a:Sco} {B C:Int} (h:B<=C) (ha:UV B a):UV C a:=by
 grind [UV]
theorem Cg {x:Inst} {r:Rte} (hx:InstOk x) (hl:r.visits.length<=1048576) (h:Z4 x r=0):UV 1073741824 (Xt x r):=by
 have hg:=I5 hx h;obtain ⟨hty,_,_⟩:=Uh (VB h);have hnum:=VK hx (show r.typ.toNat<x.types.length by omega);have htyp:nth x.types r.typ.toNat=ZX x r:=rfl;rw [htyp] at hnum
 have e:(Xp x r).1=Wr x r:=by rw [Wr,if_pos h]
 have hch:=A4 (x:=x) (l:=r.visits) (t:=r.typ) r.visits.length;rw [Xt,if_pos h,e];unfold Zep UV
 generalize Wr x r=s at *
 generalize ZX x r=t at *
 have p1:0<=t.perMile*s.miles/\t.perMile*s.miles<=100*210000:=⟨VQ Za Za,Vq Za Za Za Za⟩
 have hW: -8192<=s.fin-t.opn/\s.fin-t.opn<=8192:=Za
 have p2: -819200<=t.perTick*(s.fin-t.opn)/\t.perTick*(s.fin-t.opn)<=819200:=by
  generalize s.fin-t.opn=w at hW;have a1:=Cn hW.2 (show 0<=t.perTick by omega);have a2:=Cn hW.1 (show 0<=t.perTick by omega);omega
 have p3: -128<=(s.fin-t.opn).tdiv 64/\(s.fin-t.opn).tdiv 64<=128:=by
  grind
 have p4:0<=(s.fin-t.opn).tdiv 64*(s.fin-t.opn).tdiv 64/\(s.fin-t.opn).tdiv 64*(s.fin-t.opn).tdiv 64<=16384:=by
  generalize (s.fin-t.opn).tdiv 64=q at p3;refine ⟨?_,?_⟩
  ·rcases KY 0 q with h | h
   ·exact VQ h h
   ·exact Int.mul_nonneg_of_nonpos_of_nonpos h h
  ·rcases KY 0 q with h | h
   ·have:=Vq p3.2 p3.2 h Za;omega
   ·have h2:0<= -q:=Za
    have:=Vq (show-q<=128 by omega) (show-q<=128 by omega) h2 Za
    grind
 grind
def V7 (x:Inst) (r:Rte):Int×Int:=if Z4 x r=0 then XW (Xt x r) else (0,Z4 x r)
theorem iU (s:Sco):0<=(XW s).1/\(XW s).1<=36028797018963968:=by
 grind [XW]
theorem LV (x:Inst) (r:Rte):0<=(V7 x r).1/\(V7 x r).1<=36028797018963968:=by
 unfold V7
 split
 ·exact iU _
 ·simp
theorem SX (x:Inst) (r:Rte) (hx:InstOk x) (hb:L6 r):PT 237 [.p (ZF x),.p (WA r)] [.p (.int .i64 (V7 x r).1),.p (.int .i64 (V7 x r).2)]:=by
 have ce:=Nm x r hx hb.1 hb.2;refine Zf [] Tryz.func237 rfl yX ?_;simp (disch:=omega) only [Tryz.f237,go_sem,seval];unfold Bc at ce;refine PY ce (Wp ?_);refine cD ?_ ?_<;>intro h1<;>simp (disch:=omega) only [Sh.out h1,go_sem,seval,↓reduceIte]
 ·rw [V7,if_neg h1];exact we
 ·have h0:Z4 x r=0:=Za
  rw [V7,if_pos h0];refine CP (Gz (Xt x r) (YW Za (Cg hx hb.1 h0))) (Wp ?_);exact we
end Go.Proofs.YtiigdaohjanidaaGreatDoor.K
