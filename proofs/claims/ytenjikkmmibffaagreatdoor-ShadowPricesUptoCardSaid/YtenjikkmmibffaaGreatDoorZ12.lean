/- Declarations that the closing texts need, part 12: joined by tools/slim.py. -/
import Derived.Test.YtenjikkmmibffaaGreatDoorZ11
set_option linter.unusedVariables false
set_option linter.unusedSimpArgs false
namespace Go.Proofs.YtenjikkmmibffaaGreatDoor.K
open Go Go.AM Go.Proofs
def EK (x:Inst) (l:List Vis) (n i:Nat):Bool:=(l.take n).foldl (fun on v=>if v.order=(i:Int) then !v.drp else on) (decide ((nth x.orders i).pick.place<0))
theorem jX {x:Inst} {l:List Vis} {i:Nat} :EK x l 0 i=decide ((nth x.orders i).pick.place<0):=by simp [EK]
theorem FZ {x:Inst} {l:List Vis} {n i:Nat} (h:n<l.length):EK x l (n+1) i=if (nth l n).order=(i:Int) then !(nth l n).drp else EK x l n i:=by
 grind [EK,X9,Zh]
structure SqOk (x:Inst) (l:List Vis):Prop where
 ne:l≠ []
 inr:Inr x l
 nd:l.Nodup
 pair: ∀v∈l,pairB x.orders l v=true
theorem VK {x:Inst} {l:List Vis} (h:Xf x l=0):SqOk x l:=by
 unfold Xf at h
 split at h
 ·simp at h
 ·rename_i h1
  split at h
  ·simp at h
  ·split at h
   ·simp at h
   ·rename_i h3
    split at h
    ·simp at h
    ·rename_i h4;refine ⟨fun e=>h1 (.inl (by simp [e])),fun v hv=> ?_,BE.1 (by grind),fun v hv=> ?_⟩
     ·grind [WX]
     grind
structure OwnV (x:Inst) (l:List Vis) (i:Nat):Prop where
 pick:0<=(nth x.orders i).pick.place->(⟨i,false⟩:Vis)∈l
 drp:0<=(nth x.orders i).drp.place->(⟨i,true⟩:Vis)∈l
 both:0<=(nth x.orders i).pick.place->0<=(nth x.orders i).drp.place->vIx l ⟨i,false⟩<vIx l ⟨i,true⟩
 isP:(⟨i,false⟩:Vis)∈l->0<=(nth x.orders i).pick.place
 isD:(⟨i,true⟩:Vis)∈l->0<=(nth x.orders i).drp.place
theorem SqOk.own {x:Inst} {l:List Vis} (h:SqOk x l) {i:Nat} (hi: ∃v∈l,v.order=(i:Int)):OwnV x l i:=by
 obtain ⟨v0,hv0,ho⟩:=hi
 have key: ∀v∈l,v.order=(i:Int)->v∈ZU x.orders i/\QN l (-1) (ZU x.orders i)=true:=fun v hv hvo=>by
  have:=h.pair v hv;simp only [pairB,hvo,XU,ZF,Zs] at this;exact ⟨Wu.1 this.1,this.2⟩
 obtain ⟨_,hasc⟩:=key v0 hv0 ho;have mem: ∀b:Bool,(⟨i,b⟩:Vis)∈l->(⟨i,b⟩:Vis)∈ZU x.orders i:=fun b hb=>(key _ hb rfl).1
 have hp:(⟨i,false⟩:Vis)∈ZU x.orders i->0<=(nth x.orders i).pick.place:=fun hm=>by
  unfold ZU at hm
  grind
 have hd:(⟨i,true⟩:Vis)∈ZU x.orders i->0<=(nth x.orders i).drp.place:=fun hm=>by
  unfold ZU at hm
  grind
 have m1: ∀v,-1<vIx l v->v∈l:=fun v hv=>Wu.1 Za;unfold ZU at hasc
 by_cases c1:0<=(nth x.orders i).pick.place<;>by_cases c2:0<=(nth x.orders i).drp.place
 ·simp only [c1,c2,if_true,ZK,Zy,QN,JP,ZF,Zs] at hasc;exact ⟨fun _=>m1 _ hasc.1,fun _=>m1 _ Za,fun _ _=>hasc.2,fun _=>c1,fun _=>c2⟩
 ·simp only [c1,c2,if_true,YC,Wl,QN,JP,Zs] at hasc;exact ⟨fun _=>m1 _ hasc,fun h=>absurd h c2,fun _ h=>absurd h c2,fun _=>c1,fun hm=>hd (mem _ hm)⟩
 ·simp only [c1,c2,if_true,YC,Zy,QN,JP,Zs] at hasc;exact ⟨fun h=>absurd h c1,fun _=>m1 _ hasc,fun h=>absurd h c1,fun hm=>hp (mem _ hm),fun _=>c2⟩
 ·exact ⟨fun h=>absurd h c1,fun h=>absurd h c2,fun h=>absurd h c1,fun hm=>hp (mem _ hm),fun hm=>hd (mem _ hm)⟩
theorem Jt {l:List Vis} (hn:l.Nodup) {v:Vis} {n:Nat} :v∈l.take n↔0<=vIx l v/\vIx l v<(n:Int):=by
 constructor
 ·intro h;obtain ⟨j,h1,h2,rfl⟩:=Ql h
  grind [Q5]
 ·intro ⟨h1,h2⟩;obtain ⟨h3,h4⟩:=EU h1
  grind [KH]
theorem jV {x:Inst} {l:List Vis} (h:SqOk x l) (i:Nat): ∀n,n<=l.length->EK x l n i=if (⟨i,true⟩:Vis)∈l.take n then false else if (⟨i,false⟩:Vis)∈l.take n then true else decide ((nth x.orders i).pick.place<0)
 | 0,_=>by simp [EK]
 | n+1,hn=>by
  have hk:n<l.length:=Za
  have hat:=Q5 h.nd hk;rw [FZ hk,jV h i n Za]
  by_cases c:(nth l n).order=(i:Int)
  ·rw [if_pos c];have ho:=h.own (i:=i) ⟨nth l n,Zt hk,c⟩
   cases hd:(nth l n).drp with
   | true =>
    have hv:nth l n=⟨i,true⟩:=by rw [<- c,<- hd]
    rw [hv] at hat;have:(⟨i,true⟩:Vis)∈l.take (n+1):=(Jt h.nd).2 Za;rw [if_pos this];rfl
   | false =>
    have hv:nth l n=⟨i,false⟩:=by rw [<- c,<- hd]
    rw [hv] at hat;have h1:(⟨i,false⟩:Vis)∈l.take (n+1):=(Jt h.nd).2 Za
    have h2: ¬(⟨i,true⟩:Vis)∈l.take (n+1):=fun hm=>by
     have h3:=JX hm;have h4:=(Jt h.nd).1 hm;have h5:=ho.both (ho.isP (JX h1)) (ho.isD h3);omega
    rw [if_neg h2,if_pos h1];rfl
  ·rw [if_neg c]
   have e: ∀b:Bool,((⟨i,b⟩:Vis)∈l.take (n+1))=((⟨i,b⟩:Vis)∈l.take n):=fun b=>by
    rw [X9 hk,Xg,<- Zh hk];refine propext ⟨fun hm=>hm.resolve_right fun hm=> ?_,.inl⟩;simp at hm;exact c (by rw [<- hm])
   simp only [e]
theorem Zcq {x:Inst} {l:List Vis} (h:SqOk x l) {k i:Nat} (hk:k<l.length) (hi:(nth l k).order=(i:Int)):EK x l k i=(nth l k).drp:=by
 have hat:=Q5 h.nd hk;have ho:=h.own (i:=i) ⟨nth l k,Zt hk,hi⟩;have hm:=Zt hk;rw [jV h i k Za]
 cases hd:(nth l k).drp with
 | true =>
  have hv:nth l k=⟨i,true⟩:=by rw [<- hi,<- hd]
  rw [hv] at hat hm
  have h1: ¬(⟨i,true⟩:Vis)∈l.take k:=fun hm=>by have:=(Jt h.nd).1 hm;omega
  rw [if_neg h1]
  by_cases c:0<=(nth x.orders i).pick.place
  ·have h2:=ho.both c (ho.isD hm);have h3:(⟨i,false⟩:Vis)∈l.take k:=(Jt h.nd).2 ⟨Wu.2 (ho.pick c),Za⟩
   grind
  grind
 | false =>
  have hv:nth l k=⟨i,false⟩:=by rw [<- hi,<- hd]
  rw [hv] at hat hm;have hp:=ho.isP hm
  have h1: ¬(⟨i,false⟩:Vis)∈l.take k:=fun hm=>by have:=(Jt h.nd).1 hm;omega
  grind
theorem tJ {f g:Nat->Int} {i:Nat} (h: ∀q,q≠i->f q=g q): ∀n,i<n->((List.range n).map f).sum=((List.range n).map g).sum+(f i-g i):=by
 have same: ∀n,n<=i->((List.range n).map f).sum=((List.range n).map g).sum:=fun n hn=>by
  grind [WW]
 intro n
 induction n with
 | zero=>omega
 | succ n ih =>
  intro hi;simp only [Ys,XG,Zq,Zm,List.sum_append,List.sum_cons,List.sum_nil]
  grind
theorem Sz {f:Nat->Int} {b:Int} (hb:0<=b) (h: ∀q,0<=f q/\f q<=b): ∀n:Nat,0<=((List.range n).map f).sum/\((List.range n).map f).sum<=b*n
 | 0=>Zb
 | n+1=>by
  have ih:=Sz hb h n
  grind [Ys]
theorem J6 {p:Nat->Bool} {f:Nat->Int} : ∀l:List Nat,((l.filter p).map f).sum=(l.map fun i=>if p i=true then f i else 0).sum
 | []=>rfl
 | a::l=>by
  rw [Co,Zq,List.sum_cons]
  by_cases h:p a=true
  ·rw [if_pos h,Zq,List.sum_cons,J6 l,if_pos h]
  ·rw [if_neg h,J6 l,if_neg h];omega
def DJ (x:Inst) (l:List Vis) (n j:Nat):Int:=((List.range x.orders.length).map fun i=>if (EK x l n i&&hasO l i)=true then nth (nth x.orders i).load j else 0).sum
theorem H4 {x:Inst} {l:List Vis} (h:SqOk x l) {k j:Nat} (hk:k<l.length):DJ x l (k+1) j=if (nth l k).drp=true then DJ x l k j-nth (nth x.orders (nth l k).order.toNat).load j else DJ x l k j+nth (nth x.orders (nth l k).order.toNat).load j:=by
 obtain ⟨v1,v2⟩:=h.inr _ (Zt hk);obtain ⟨i,hi⟩: ∃i:Nat,(nth l k).order=(i:Int):=⟨(nth l k).order.toNat,Za⟩;have hh:hasO l (i:Int)=true:=W1.2 ⟨_,Zt hk,hi⟩;have h1:=Zcq h hk hi
 have h2:EK x l (k+1) i= !(nth l k).drp:=by simp_all [FZ]
 unfold DJ
 rw [tJ (f:=fun i=>if (EK x l (k+1) i&&hasO l i)=true then nth (nth x.orders i).load j else 0) (g:=fun i=>if (EK x l k i&&hasO l i)=true then nth (nth x.orders i).load j else 0) (i:=i) (fun q hq=>by
  have:EK x l (k+1) q=EK x l k q:=by rw [FZ hk,if_neg Za]
  grind) x.orders.length Za]
 grind
def Y9 (x:Inst) (l:List Vis) (n:Nat):List Int:=(List.range (dimsOf x.types).toNat).map fun j=>DJ x l n j
def E0 (a b:List Int):List Int:=(List.range a.length).map fun j=>nth a j+nth b j
def tG (a b:List Int):List Int:=(List.range a.length).map fun j=>nth a j-nth b j
theorem E3 {x:Inst} {l:List Vis} {n:Nat} :(Y9 x l n).length=(dimsOf x.types).toNat:=by simp [Y9]
theorem KM {f:Nat->Int} {n j:Nat} (h:j<n):nth ((List.range n).map f) j=f j:=by
 grind [Zh]
theorem SQ {x:Inst} {l:List Vis} (h:SqOk x l) {k:Nat} (hk:k<l.length):Y9 x l (k+1)=if (nth l k).drp=true then tG (Y9 x l k) (nth x.orders (nth l k).order.toNat).load else E0 (Y9 x l k) (nth x.orders (nth l k).order.toNat).load:=by
 have key: ∀g:Nat->Int,(∀j,j<(dimsOf x.types).toNat->DJ x l (k+1) j=g j)->Y9 x l (k+1)=(List.range (dimsOf x.types).toNat).map g:=fun g hg =>
  WW fun j hj=>hg j (ZL.1 hj)
 split
 ·simp_all [tG,H4,Y9,KM]
 simp_all [E0,H4,Y9,KM]
set_option maxRecDepth 8000
section
variable {σ : Type}
def A3 (nx:List Vis->List Vis):Nat->List Vis->List (List Vis)
 | 0,l=> [l]
 | f+1,l=>if nx l= [] then [l] else (nx l).flatMap fun v=>A3 nx f (l++ [v])
def lvW (nx:List Vis->List Vis) (go:σ->Vis->σ) (emp:σ->Bool):Nat->List Vis->σ->List (List Vis)
 | 0,l,_=> [l]
 | f+1,l,s=>(nx l).flatMap fun v=>if emp (go s v)=true then [] else lvW nx go emp f (l++ [v]) (go s v)
theorem RW {nx:List Vis->List Vis} : ∀(f:Nat) (l m:List Vis),m∈A3 nx f l-> ∃r,m=l++r
 | 0,l,m,h=>by simp_all [A3]
 | f+1,l,m,h=>by
  rw [A3] at h
  split at h
  ·simp_all
  ·obtain ⟨v,_,h⟩:=XQ.1 h;obtain ⟨r,rfl⟩:=RW f _ m h;simp
theorem Ur {α β:Type} {p:β->Bool} {g:α->List β} : ∀l:List α,(l.flatMap g).filter p=l.flatMap fun a=>(g a).filter p
 | []=>rfl
 | a::l=>by rw [U7,U7,List.filter_append,Ur l]
theorem B1 {α β:Type} {g h:α->List β} : ∀ {l:List α},(∀a∈l,g a=h a)->l.flatMap g=l.flatMap h
 | [],_=>rfl
 | a::l,e=>by rw [U7,U7,e a Zb,B1 fun b hb=>e b (Yp _ hb)]
theorem vN {nx:List Vis->List Vis} {go:σ->Vis->σ} {emp:σ->Bool} {ok:List Vis->Bool} {G:List Vis->Prop} {R:List Vis->σ->Prop} {tot:Nat}
  (hG: ∀l v,G l->v∈nx l->G (l++ [v])) (hR: ∀l s v,G l->R l s->v∈nx l->R (l++ [v]) (go s v)) (hE: ∀l s,G l->R l s->emp s=true-> ∀r,ok (l++r)=false)
  (hN: ∀l,G l->l.length<tot->nx l≠ []): ∀(f:Nat) (l:List Vis) (s:σ),G l->R l s->l.length+f=tot->(A3 nx f l).filter ok=(lvW nx go emp f l s).filter ok
 | 0,l,s,_,_,_=>rfl
 | f+1,l,s,hl,hs,ht=>by
  rw [A3,lvW,if_neg (hN l hl Za),Ur,Ur];refine B1 fun v hv=> ?_;have h1:=hG l v hl hv;have h2:=hR l s v hl hs hv
  split
  ·rename_i he;rw [List.filter_nil,List.filter_eq_nil_iff];intro m hm;obtain ⟨r,rfl⟩:=RW f _ m hm
   grind
  ·exact vN hG hR hE hN f _ _ h1 h2 (by simp;omega)
def XC (ok:List Vis->Bool) (col:List Vis->Col) (better:Col->Col->Bool) (b:Col×Bool) (l:List Vis):Col×Bool:=if ok l=true/\(b.2=false\/better (col l) b.1=true) then (col l,true) else b
theorem QG {ok:List Vis->Bool} {col:List Vis->Col} {better:Col->Col->Bool} : ∀(L:List (List Vis)) (b:Col×Bool),L.foldl (XC ok col better) b=(L.filter ok).foldl (XC ok col better) b
 | [],b=>rfl
 | l::L,b=>by
  rw [XL,Co]
  split
  ·rw [XL];exact QG L _
  ·rename_i h;rw [XC,if_neg (fun g=>h g.1)];exact QG L b
theorem Gw {ok:List Vis->Bool} {col:List Vis->Col} {better:Col->Col->Bool} : ∀(L:List (List Vis)) (c c':Col),(L.foldl (XC ok col better) (c,false)).2=(L.foldl (XC ok col better) (c',false)).2/\((L.foldl (XC ok col better) (c,false)).2=true->(L.foldl (XC ok col better) (c,false)).1=(L.foldl (XC ok col better) (c',false)).1)
 | [],c,c'=>⟨rfl,fun h=>by cases h⟩
 | l::L,c,c'=>by
  rw [XL,XL]
  by_cases h:ok l=true
  ·rw [XC,if_pos ⟨h,.inl rfl⟩,XC,if_pos ⟨h,.inl rfl⟩];simp
  ·rw [XC,if_neg (fun g=>h g.1),XC,if_neg (fun g=>h g.1)];exact Gw L c c'
end
set_option maxHeartbeats 8000000
def Q4 (l:List Pt) (t:Int) (i:Nat):Bool:=decide ((nth l i).t<=t)&&decide (t<(nth l (i+1)).t)
def G3 (p q:Pt) (t:Int):Int:=p.a+((t-p.t)*(q.a-p.a)+q.t-p.t-1) / (q.t-p.t)
def Jy (l:List Pt) (t:Int):Int:=match (List.range (l.length-1)).find? (Q4 l t) with
 | some i=>G3 (nth l i) (nth l (i+1)) t
 | none=>if (nth l 0).t<t then t+(nth l (l.length-1)).a-(nth l (l.length-1)).t else t+(nth l 0).a-(nth l 0).t
theorem Iw {l:List Pt} {t:Int} {i:Nat} (hi:i+1<l.length) (hno: ∀j,j<i->Q4 l t j=false) (h:Q4 l t i=true):Jy l t=G3 (nth l i) (nth l (i+1)) t:=by
 have:(List.range (l.length-1)).find? (Q4 l t)=some i:=by
  grind [Ex]
 rw [Jy,this]
theorem Es {l:List Pt} {t:Int} (hno: ∀j,j+1<l.length->Q4 l t j=false):Jy l t=if (nth l 0).t<t then t+(nth l (l.length-1)).a-(nth l (l.length-1)).t else t+(nth l 0).a-(nth l 0).t:=by
 grind [Jy]
theorem Gk {p q:Pt} {t:Int} (h1:p.t<=t) (h2:t<q.t) (hp:0<=p.t) (hq:q.t<=4096) (ha:p.a<=q.a) (hpa:0<=p.a) (hqa:q.a<=8192):0<=(t-p.t)*(q.a-p.a)/\(t-p.t)*(q.a-p.a)<=33554432:=by
 refine ⟨Uw Za Za,?_⟩;have:(t-p.t)*(q.a-p.a)<=4096*8192:=VB Za Za Za Za;omega
theorem Ov (l:List Pt) (c:Bool) (t:Int) (hl:W3 l) (ht:0<=t/\t<=1073741824):PC 285 [.p (.list c (l.map Hi)),.p (.int .i64 t)] (.int .i64 (Jy l t)):=by
 obtain ⟨⟨hl1,hl2⟩,hpt⟩:=hl;refine Zd Tryz.func285 rfl Zb0 ?_;simp (disch:=omega) only [Tryz.f285,go_sem,seval];refine ((fA l c Za).frozenE).useV fun m hm=>Zc ?_
 have hm0:m.length=0:=by rw [hm.emp.2 ⟨⟨hl1,hl2⟩,hpt⟩];rfl
 have e1: ¬t<0:=Za
 have e2: ¬ 1073741824<t:=Za
 simp (disch:=omega) only [hm0,e1,e2,go_sem,seval];refine Zl [0,1] (fun k:Nat=> [(5,.p (.int .i64 k))]) (fun _=> []) (fun k=>k<l.length/\ ∀j,j<k->Q4 l t j=false) (fun k=>l.length-k) 0 (by simp;omega) (Weak.mk ?_) ?_
 ·simp (disch:=omega) only [go_sem,seval,↓reduceIte]
 ·rintro k ⟨hk,hno⟩;refine Zc ?_;refine cD ?_ ?_<;>intro h<;>simp (disch:=omega) only [Sh.out h,go_sem,seval,↓reduceIte]
  ·have hk2:k+1<l.length:=Za
   obtain ⟨⟨p1,p2,p3,p4⟩,_⟩:=hpt k hk;obtain ⟨⟨q1,q2,q3,q4⟩,q5⟩:=hpt (k+1) hk2;obtain ⟨r1,r2⟩:=q5 Za;rw [Nat.add_sub_cancel] at r1 r2;refine gT ?_ ?_<;>intro h2<;>simp (disch:=omega) only [Sh.out h2,go_sem,seval,↓reduceIte]
   ·refine cD ?_ ?_<;>intro h3<;>simp (disch:=omega) only [Sh.out h3,go_sem,seval,↓reduceIte]
    ·have hsg:Q4 l t k=true:=by simp [Q4,h2,h3]
     rw [Iw hk2 hno hsg];obtain ⟨s1,s2⟩:=Gk h2 h3 p1 q2 r2 Za Za;have d1:0<=((t-(nth l k).t)*((nth l (k+1)).a-(nth l k).a)+(nth l (k+1)).t-(nth l k).t-1) / ((nth l (k+1)).t-(nth l k).t):=Int.ediv_nonneg Za Za;have d2:((t-(nth l k).t)*((nth l (k+1)).a-(nth l k).a)+(nth l (k+1)).t-(nth l k).t-1) / ((nth l (k+1)).t-(nth l k).t)<=33558528:=Int.le_trans (Int.ediv_le_self _ Za) Za
     have d3: ¬(nth l (k+1)).t-(nth l k).t=0:=Za
     simp only [G3];refine Xn ?_;simp (disch:=omega) only [go_sem,seval,↓reduceIte]
    ·have hsg:Q4 l t k=false:=by simp [Q4,h3]
     exact ⟨k+1,⟨Za,Zr.2 ⟨hno,hsg⟩⟩,Za,wk⟩
   ·have hsg:Q4 l t k=false:=by simp [Q4,h2]
    exact ⟨k+1,⟨Za,Zr.2 ⟨hno,hsg⟩⟩,Za,wk⟩
  ·have hkl:k+1=l.length:=Za
   rw [Es (fun j hj=>hno j Za)];obtain ⟨⟨p1,p2,p3,p4⟩,_⟩:=hpt 0 Za;obtain ⟨⟨q1,q2,q3,q4⟩,_⟩:=hpt (l.length-1) Za
   have i1:((l.length:Int)-1).toNat=l.length-1:=Za
   refine cD ?_ ?_<;>intro h2<;>simp (disch:=omega) only [Sh.out h2,go_sem,seval,↓reduceIte]
theorem ZX {α:Type} [Inhabited α] {l:List α} {i:Nat} (h:i<l.length):nth l i∈l:=by grind [Zh]
def nY (a:Arc):Prop:=W3 a.travel/\a.slow.length<=16/\ ∀p∈a.slow,0<=p.t/\p.t<=4096/\0<=p.a/\p.a<=4096
def Kg (l:List Pt) (t:Int) (k:Nat):Int:=(l.take k).foldl (fun s p=>if p.t<=t then s+p.a else s) 0
def Iv (a:Arc) (t:Int):Int:=Jy a.travel t+Kg a.slow t a.slow.length
theorem Bz {l:List Pt} {t:Int} {k:Nat} (h:k<l.length):Kg l t (k+1)=if (nth l k).t<=t then Kg l t k+(nth l k).a else Kg l t k:=by
 grind [Kg,X9,Zh]
theorem Jr {l:List Pt} {t:Int} (hl: ∀p∈l,0<=p.a/\p.a<=4096): ∀k,k<=l.length->0<=Kg l t k/\Kg l t k<=4096*k
 | 0,_=>by simp [Kg]
 | k+1,h=>by
  have ih:=Jr (t:=t) hl k Za
  grind [ZX,Bz]
theorem Fa {l:List Pt} {t:Int} (hl:W3 l) (ht:0<=t/\t<=1073741824):0<=Jy l t/\Jy l t<=1107304448:=by
 obtain ⟨⟨hl1,hl2⟩,hpt⟩:=hl;unfold Jy
 split
 ·rename_i i hi;have hm:=QV hi;have hs:=Qw hi;simp at hm;simp only [Q4,ZF,Zs] at hs;obtain ⟨⟨p1,p2,p3,p4⟩,_⟩:=hpt i Za;obtain ⟨⟨q1,q2,q3,q4⟩,q5⟩:=hpt (i+1) Za;obtain ⟨r1,r2⟩:=q5 Za;rw [Nat.add_sub_cancel] at r1 r2;obtain ⟨s1,s2⟩:=Gk hs.1 hs.2 p1 q2 r2 Za Za;have d1:0<=((t-(nth l i).t)*((nth l (i+1)).a-(nth l i).a)+(nth l (i+1)).t-(nth l i).t-1) / ((nth l (i+1)).t-(nth l i).t):=Int.ediv_nonneg Za Za;have d2:((t-(nth l i).t)*((nth l (i+1)).a-(nth l i).a)+(nth l (i+1)).t-(nth l i).t-1) / ((nth l (i+1)).t-(nth l i).t)<=33558528:=Int.le_trans (Int.ediv_le_self _ Za) Za
  unfold G3;omega
 ·obtain ⟨⟨p1,p2,p3,p4⟩,_⟩:=hpt 0 Za;obtain ⟨⟨q1,q2,q3,q4⟩,_⟩:=hpt (l.length-1) Za;omega
theorem Ow (a:Arc) (t:Int) (ha:nY a) (ht:0<=t/\t<=1073741824):PC 267 [.p (VO a),.p (.int .i64 t)] (.int .i64 (Iv a t)):=by
 obtain ⟨h1,h2,h3⟩:=ha;have hr:=Fa h1 ht;have hs:=Jr (t:=t) (fun p hp=>(h3 p hp).2.2);refine Zd Tryz.func267 rfl ZbI ?_;simp (disch:=omega) only [Tryz.f267,go_sem,seval];refine (Ov a.travel a.travel_c t h1 ht).use (Zc ?_);refine Zl [1,2] (fun k:Nat=> [(5,.p (.int .i64 (Jy a.travel t+Kg a.slow t k))),(6,.p (.int .i64 k))]) (fun _=> [W6 a]) (fun k=>k<=a.slow.length) (fun k=>a.slow.length-k) 0 Zb (Weak.mk ?_) ?_
 ·simp (disch:=omega) only [W6,Kg,Ux,go_sem,seval];simp
 ·intro k hk;have hsk:=hs k hk;simp (disch:=omega) only [W6,go_sem,seval];refine cD ?_ ?_<;>intro h<;>simp (disch:=omega) only [Sh.out h,go_sem,seval,↓reduceIte]
  ·have hk2:k<a.slow.length:=Za
   have hp:=h3 _ (ZX hk2);have hsn:=Bz (t:=t) hk2;refine ZO ?_ ?_<;>intro h4
   ·rw [if_pos h4] at hsn;exact ⟨k+1,Za,Za,Weak.mk (by simp (disch:=omega) only [hsn,Int.add_assoc,go_sem,seval])⟩
   ·rw [if_neg h4] at hsn;exact ⟨k+1,Za,Za,Weak.mk (by simp (disch:=omega) only [hsn,go_sem,seval])⟩
  grind [Iv]
theorem N4 {g:FuncId} {args:List V} {a b c:PV} {H:List AM.Obj} {K:V->List AM.Obj->Prop} (h:ACalls Tryz.prog g args [] fun x H'=>x= .tup [.p a,.p b,.p c]/\H'= []) (k:K (.tup [.p a,.p b,.p c]) H) (ha:Xl 0 args=true:=by rfl):ACalls Tryz.prog g args H K :=
 (h.behind ha H).mono fun x H' hq=>by
  obtain ⟨y,H1,⟨rfl,rfl⟩,rfl,rfl⟩:=hq
  grind [shV,shVs]
theorem Yf {g:FuncId} {args:List V} {a b:PV} {H:List AM.Obj} {K:V->List AM.Obj->Prop} (h:ACalls Tryz.prog g args [] fun x H'=>x= .tup [.p a,.p b]/\H'= []) (k:K (.tup [.p a,.p b]) H) (ha:Xl 0 args=true:=by rfl):ACalls Tryz.prog g args H K :=
 (h.behind ha H).mono fun x H' hq=>by
  obtain ⟨y,H1,⟨rfl,rfl⟩,rfl,rfl⟩:=hq
  grind [shV,shVs]
def KO (n:Net) (p:Int):Bool:=decide (0<=p)&&decide (p<(n.places.length:Int))
theorem HN (n:Net) (p:Int) (hn:n.places.length<=1048576):PC 265 [.p (BX n),.p (.int .i64 p)] (.bool (KO n p)):=by
 refine Zd Tryz.func265 rfl ZbG ?_;simp (disch:=omega) only [Tryz.f265,go_sem,seval];refine gT ?_ ?_<;>intro h<;>simp (disch:=omega) only [Sh.out h,go_sem,seval,↓reduceIte]
 ·simp [KO,h]
 ·simp [KO,h]
def Vs (pr f t:Int) (a:Arc):Bool:=decide (a.src=f)&&decide (a.dst=t)&&decide (a.prof=pr)
def V7 : Arc:=⟨0,0,0,0,true,[],true,[]⟩
def WT (n:Net) (pr f t:Int):Arc×Bool:=match n.arcs.find? (Vs pr f t) with | some a=>(a,true) | none=>(V7,false)
theorem ME {n:Net} {pr f t:Int} {k:Nat} (hk:k<n.arcs.length) (hno: ∀j,j<k->Vs pr f t (nth n.arcs j)=false) (h:Vs pr f t (nth n.arcs k)=true):WT n pr f t=(nth n.arcs k,true):=by
 have:n.arcs.find? (Vs pr f t)=some (nth n.arcs k):=by
  grind [Ex,Zh]
 rw [WT,this]
theorem MF {n:Net} {pr f t:Int} (hno: ∀j,j<n.arcs.length->Vs pr f t (nth n.arcs j)=false):WT n pr f t=(V7,false):=by
 have:n.arcs.find? (Vs pr f t)=none:=by
  rw [Ak];intro a ha;obtain ⟨j,hj,rfl⟩:=ZT.1 ha
  grind [Zh]
 rw [WT,this]
theorem fX (n:Net) (pr f t:Int) (hn:n.arcs.length<=1048576):PT 266 [.p (BX n),.p (.int .i64 pr),.p (.int .i64 f),.p (.int .i64 t)] [.p (VO (WT n pr f t).1),.p (.bool (WT n pr f t).2)]:=by
 refine Zf [] Tryz.func266 rfl ZbH ?_;simp (disch:=omega) only [Tryz.f266,go_sem,seval];refine Zl [1,2,3,4,8] (fun k:Nat=> [(10,.p (.int .i64 k))]) (fun _=>Z6 n++ [W6 V7]) (fun k=>k<=n.arcs.length/\ ∀j,j<k->Vs pr f t (nth n.arcs j)=false) (fun k=>n.arcs.length-k) 0 Zb (Weak.mk ?_) ?_
 ·simp (disch:=omega) only [Z6,W6,V7,Zm,ZK,Zy,go_sem,seval]
 ·rintro k ⟨hk,hno⟩;simp (disch:=omega) only [Z6,W6,V7,Zm,ZK,Zy,go_sem,seval];refine cD ?_ ?_<;>intro h<;>simp (disch:=omega) only [Sh.out h,go_sem,seval,↓reduceIte]
  ·have hk2:k<n.arcs.length:=Za
   have nx:Vs pr f t (nth n.arcs k)=false-> ∀j,j<k+1->Vs pr f t (nth n.arcs j)=false:=fun h=>Zr.2 ⟨hno,h⟩;refine QP ?_ ?_<;>intro h1
   ·refine QP ?_ ?_<;>intro h2
    ·refine ZO ?_ ?_<;>intro h3
     ·have e:=ME hk2 hno (by grind [Vs]);rw [e];exact we
     ·exact ⟨k+1,⟨Za,nx (by simp [Vs,h3])⟩,Za,wk⟩
    ·exact ⟨k+1,⟨Za,nx (by simp [Vs,h2])⟩,Za,wk⟩
   ·exact ⟨k+1,⟨Za,nx (by simp [Vs,h1])⟩,Za,wk⟩
  ·have hkn:k=n.arcs.length:=Za
   subst hkn;rw [MF hno];exact we (by simp (disch:=omega) only [V7,Zm,go_sem,seval])
def WU (n:Net) (pr f t τ:Int):Int×Int×Int :=
 if (KO n f&&KO n t)=false then (0,0,11) else if f=t then (τ,0,0) else if (WT n pr f t).2=true then (Iv (WT n pr f t).1 τ,(WT n pr f t).1.miles,0) else (0,0,12)
def netR (n:Net):Prop:=n.places.length<=1048576/\n.arcs.length<=1048576/\ ∀a∈n.arcs,nY a
theorem Ad {n:Net} {pr f t:Int} (h:(WT n pr f t).2=true):(WT n pr f t).1∈n.arcs:=by
 grind [WT]
theorem yU (n:Net) (pr f t τ:Int) (hn:netR n) (hτ:0<=τ/\τ<=1073741824):PT 243 [.p (BX n),.p (.int .i64 pr),.p (.int .i64 f),.p (.int .i64 t),.p (.int .i64 τ)] [.p (.int .i64 (WU n pr f t τ).1),.p (.int .i64 (WU n pr f t τ).2.1),.p (.int .i64 (WU n pr f t τ).2.2)]:=by
 refine Zf [] Tryz.func243 rfl Zbl ?_;simp (disch:=omega) only [Tryz.f243,go_sem,seval];refine (HN n f hn.1).use (Zc ?_);refine gF ?_ ?_<;>intro h1<;>simp (disch:=omega) only [Sh.out h1,go_sem,seval,↓reduceIte]
 ·have e:WU n pr f t τ=(0,0,11):=by grind [WU]
  rw [e];exact we
 ·simp only [XK] at h1;refine (HN n t hn.1).use (Zc ?_);refine cD ?_ ?_<;>intro h2<;>simp (disch:=omega) only [Sh.out h2,go_sem,seval]
  ·have e:WU n pr f t τ=(0,0,11):=by grind [WU]
   rw [e];exact we
  ·simp only [XK] at h2;refine cD ?_ ?_<;>intro h3<;>simp (disch:=omega) only [Sh.out h3,go_sem,seval,↓reduceIte]
   ·have e:WU n pr f t τ=(τ,0,0):=by grind [WU]
    rw [e];exact we
   ·have cf:=fX n pr f t hn.2.1;have hm:= @Ad n pr f t
    have e0:WU n pr f t τ=if (WT n pr f t).2=true then (Iv (WT n pr f t).1 τ,(WT n pr f t).1.miles,0) else (0,0,12):=by grind [WU]
    rw [e0];generalize WT n pr f t=A at cf hm ⊢;obtain ⟨a,b⟩:=A;simp only at cf hm ⊢;refine Yf cf (Zc ?_);refine cD ?_ ?_<;>intro h4<;>simp (disch:=omega) only [Sh.out h4,go_sem,seval]
    ·have hb:b=false:=by grind
     subst hb;exact we (by simp (disch:=omega) only [go_sem,seval,↓reduceIte])
    ·have hb:b=true:=by grind
     subst hb;refine Xn (Zc ?_);refine Zo (Ow a τ (hn.2.2 a (hm rfl)) hτ) (Zc ?_);exact we
theorem tV (x:Inst) (pr f t τ:Int) (hn:netR x.net) (hτ:0<=τ/\τ<=1073741824):PT 228 [.p (Zv x),.p (.int .i64 pr),.p (.int .i64 f),.p (.int .i64 t),.p (.int .i64 τ)] [.p (.int .i64 (WU x.net pr f t τ).1),.p (.int .i64 (WU x.net pr f t τ).2.1),.p (.bool (decide ((WU x.net pr f t τ).2.2=0)))]:=by
 refine Zf [] Tryz.func228 rfl Za7 ?_;simp (disch:=omega) only [Tryz.f228,go_sem,seval];refine N4 (yU x.net pr f t τ hn hτ) (Zc ?_);exact we
structure StD where
 place:Int
 time:Int
 driven:Int
 miles:Int
def fQ (s:StD):PV:= .agg [.int .i64 s.place,.int .i64 s.time,.int .i64 s.driven,.int .i64 s.miles]
@[go_sem] theorem ZkW (s:StD):fQ s= .agg [.int .i64 s.place,.int .i64 s.time,.int .i64 s.driven,.int .i64 s.miles]:=Zk rfl rfl
def Gc (t:Typ) (s:StD) (b:Bool):StD:=if b=true then { s with time:=s.time+t.rest,driven:=0 } else s
theorem Nu (t:Typ) (s:StD) (b:Bool) (hb: -1099511627776<=s.time/\s.time<=1099511627776/\ -1099511627776<=t.rest/\t.rest<=1099511627776):PC 215 [.p (X1 t),.p (fQ s),.p (.bool b)] (fQ (Gc t s b)):=by
 refine Zd Tryz.func215 rfl ZaY ?_
 cases b with
 | true=>simp (disch:=omega) only [Tryz.f215,Gc,go_sem,seval,↓reduceIte]
 | false=>simp (disch:=omega) only [Tryz.f215,Gc,YS,go_sem,seval,↓reduceIte]
def Js (x:Inst) (t:Typ) (s:StD) (to cl late:Int):StD×Int :=
 if ¬(WU x.net t.prof s.place to s.time).2.2=0 then (s,12)
 else if cl<(WU x.net t.prof s.place to s.time).1 then (s,late)
 else if t.drive<s.driven+(WU x.net t.prof s.place to s.time).1-s.time then (s,16)
 else (⟨to,(WU x.net t.prof s.place to s.time).1,s.driven+(WU x.net t.prof s.place to s.time).1-s.time,s.miles+(WU x.net t.prof s.place to s.time).2.1⟩,0)
def cP (n:Int):Prop:= -1099511627776<=n/\n<=1099511627776
theorem NU (x:Inst) (t:Typ) (s:StD) (to cl late:Int) (hn:netR x.net) (hs:0<=s.time/\s.time<=1073741824) (hd:cP s.driven) (hm:cP s.miles) (hg:cP (WU x.net t.prof s.place to s.time).1/\cP (WU x.net t.prof s.place to s.time).2.1) :
  PT 216 [.p (Zv x),.p (X1 t),.p (fQ s),.p (.int .i64 to),.p (.int .i64 cl),.p (.int .i64 late)] [.p (fQ (Js x t s to cl late).1),.p (.int .i64 (Js x t s to cl late).2)]:=by
 have cw:=tV x t.prof s.place to s.time hn hs;unfold Js;generalize WU x.net t.prof s.place to s.time=g at cw hg ⊢;obtain ⟨a,m,e⟩:=g;unfold cP at hd hm hg;simp only at cw hg ⊢;refine Zf [] Tryz.func216 rfl ZaZ ?_;simp (disch:=omega) only [Tryz.f216,go_sem,seval];refine N4 cw (Zc ?_);refine cD ?_ ?_<;>intro h1<;>simp (disch:=omega) only [Sh.out h1,go_sem,seval,↓reduceIte]
 ·exact we
 ·rw [if_neg h1];refine cD ?_ ?_<;>intro h2<;>simp (disch:=omega) only [Sh.out h2,go_sem,seval,↓reduceIte]
  ·exact we
  ·rw [if_neg h2];refine cD ?_ ?_<;>intro h3<;>simp (disch:=omega) only [Sh.out h3,go_sem,seval,↓reduceIte]
   ·exact we
   ·exact we
structure Lab where
 ready:Int
 since:Int
 she:She
 deriving Inhabited
def zShe : She:=⟨false,0,true,[],0,0⟩
def WS : Lab:=⟨0,0,zShe⟩
def ZJ (t:Typ) (L:Lab) (b:Bool):Int:=if b=true then L.ready+t.rest else L.ready
def WQ (L:Lab) (b:Bool):Int:=if b=true then 0 else L.since
def RY (l:List Tim) (k:Nat) (d:Int) (b:Bool):List Tim:=l.set k { nth l k with dep:=d,rest:=b }
def XW (k:Nat) (d:Int) (b:Bool) (s:She):She:=if k=0 then { s with rest:=b,dep:=d } else { s with times:=RY s.times (k-1) d b }
def V2 (t:Typ) (sp:List Stp) (k:Nat):Int:=if k=0 then t.src else (nth sp (k-1)).place
def Of (t:Typ) (sp:List Stp) (k:Nat):Int:=if k=sp.length then t.dst else (nth sp k).place
def YY (x:Inst) (t:Typ) (sp:List Stp) (k:Nat) (d:Int):Int×Int×Int:=WU x.net t.prof (V2 t sp k) (Of t sp k) d
def Wx (t:Typ) (sp:List Stp) (k:Nat) (g:Int×Int×Int) (d s:Int) (h:She):Lab×Int :=
 if ¬g.2.2=0 then (WS,12)
 else if k=sp.length then
  if t.cls<g.1 then (WS,15) else if t.drive<s+g.1-d then (WS,16)
  else (⟨g.1,s+g.1-d,{ h with fin:=g.1,miles:=h.miles+g.2.1 }⟩,0)
 else if (nth sp k).cls<max g.1 (nth sp k).opn then (WS,14)
 else if t.drive<s+g.1-d then (WS,16)
 else (⟨max g.1 (nth sp k).opn+(nth sp k).serv,s+g.1-d,{ h with times_c:=false,times:=h.times++ [⟨g.1,max g.1 (nth sp k).opn,0,false⟩],miles:=h.miles+g.2.1 }⟩,0)
def nxtF (x:Inst) (t:Typ) (sp:List Stp) (k:Nat) (L:Lab) (b:Bool):Lab×Int :=
 Wx t sp k (YY x t sp k (ZJ t L b)) (ZJ t L b) (WQ L b) (XW k (ZJ t L b) b L.she)
def Xy (x:Inst) (t:Typ) (sp:List Stp) (k:Nat) (L:Lab) (b:Bool):Option Lab:=if (nxtF x t sp k L b).2=0 then some (nxtF x t sp k L b).1 else none
def Xb (x:Inst) (t:Typ) (sp:List Stp):Nat->Lab->List Bool->Lab×Int
 | _,L,[]=>(L,0)
 | k,L,b::bs=>if (nxtF x t sp k L b).2=0 then Xb x t sp (k+1) (nxtF x t sp k L b).1 bs else (WS,(nxtF x t sp k L b).2)
def labF (t:Typ) (st:Int):Lab:=⟨max t.opn st,0,zShe⟩
theorem Yw {x:Inst} {t:Typ} {sp:List Stp} : ∀(bs:List Bool) (k:Nat) (L:Lab),Y6 (Xy x t sp) k L bs=if (Xb x t sp k L bs).2=0 then some (Xb x t sp k L bs).1 else none
 | [],k,L=>by rfl
 | b::bs,k,L=>by
  rw [Y6,Xb,Xy]
  by_cases h:(nxtF x t sp k L b).2=0
  ·simp only [h,if_true];exact Yw bs (k+1) _
  ·simp [h]
structure TrpOk (x:Inst) (t:Typ) (sp:List Stp):Prop where
 net:netR x.net
 mil: ∀a∈x.net.arcs,0<=a.miles/\a.miles<=10000
 opn:0<=t.opn/\t.opn<=t.cls/\t.cls<=4096
 drv:1<=t.drive/\t.drive<=4096
 rst:0<=t.rest/\t.rest<=4096
 stp: ∀s∈sp,0<=s.opn/\s.opn<=s.cls/\s.cls<=4096/\0<=s.serv/\s.serv<=4096
 len:sp.length<=20
structure LabR (k:Nat) (L:Lab):Prop where
 rdy:0<=L.ready/\L.ready<=8192
 snc: -(12288*(k:Int))<=L.since/\L.since<=4096
 mil:0<=L.she.miles/\L.she.miles<=10000*(k:Int)
theorem IY {n:Net} {pr f t τ:Int} (hn:netR n) (hm: ∀a∈n.arcs,0<=a.miles/\a.miles<=10000) (hτ:0<=τ/\τ<=1073741824):(0<=(WU n pr f t τ).1/\(WU n pr f t τ).1<=1107369984)/\(0<=(WU n pr f t τ).2.1/\(WU n pr f t τ).2.1<=10000):=by
 unfold WU
 split
 ·simp
 ·split
  ·grind
  ·split
   ·rename_i h;have hA:=Ad h;have h1:=Fa (hn.2.2 _ hA).1 hτ;have h2:=Jr (t:=τ) (fun p hp=>((hn.2.2 _ hA).2.2 p hp).2.2) _ (ZD _);have h3:=(hn.2.2 _ hA).2.1
    grind [Iv]
   ·simp
theorem Ks {x t sp k L} (h:TrpOk x t sp) (hl:LabR k L) (b:Bool):0<=ZJ t L b/\ZJ t L b<=12288:=by
 have:=h.rst;have:=hl.rdy
 grind [ZJ]
theorem Gq {k L} (hl:LabR k L) (b:Bool): -(12288*(k:Int))<=WQ L b/\WQ L b<=4096:=by
 have:=hl.snc
 grind [WQ]
theorem IX {x t sp k L} (h:TrpOk x t sp) (hl:LabR k L) (b:Bool):(0<=(YY x t sp k (ZJ t L b)).1/\(YY x t sp k (ZJ t L b)).1<=1107369984)/\(0<=(YY x t sp k (ZJ t L b)).2.1/\(YY x t sp k (ZJ t L b)).2.1<=10000):=by
 have:=Ks h hl b;exact IY h.net h.mil Za
theorem KG {k d b s} :(XW k d b s).miles=s.miles:=by grind [XW]
theorem HF {k d b s} :(XW k d b s).fin=s.fin:=by grind [XW]
theorem AA {k d b s} :(XW k d b s).times.length=s.times.length:=by grind [XW,RY]
theorem Li {x t sp k L b} (h:TrpOk x t sp) (hk:k<=sp.length) (hl:LabR k L) (he:(nxtF x t sp k L b).2=0):LabR (k+1) (nxtF x t sp k L b).1:=by
 have h1:=Ks h hl b;have h2:=Gq hl b;obtain ⟨h3,h4⟩:=IX h hl b;have h5:=hl.mil;have h6:=h.opn;have h7:=h.drv;have hm:(XW k (ZJ t L b) b L.she).miles=L.she.miles:=KG;unfold nxtF at he ⊢
 generalize YY x t sp k (ZJ t L b)=g at *
 generalize ZJ t L b=d at *
 generalize WQ L b=s at *
 generalize XW k d b L.she=m at *
 unfold Wx at he ⊢
 split at he
 ·simp at he
 ·rename_i c1;rw [if_neg c1]
  split at he
  ·rename_i c2;rw [if_pos c2]
   split at he
   ·simp at he
   ·rename_i c3;rw [if_neg c3]
    split at he
    ·simp at he
    ·rename_i c4;rw [if_neg c4];exact ⟨by grind,by grind,by grind⟩
  ·rename_i c2;rw [if_neg c2];have h8:=h.stp _ (ZX (show k<sp.length by omega))
   split at he
   ·simp at he
   ·rename_i c3;rw [if_neg c3]
    split at he
    ·simp at he
    ·rename_i c4;rw [if_neg c4];exact ⟨by grind,by grind,by grind⟩
theorem FW {x t sp k L b} (hl:L.she.times.length=k) (he:(nxtF x t sp k L b).2=0) (hk:k<sp.length):(nxtF x t sp k L b).1.she.times.length=k+1:=by
 have hm:(XW k (ZJ t L b) b L.she).times.length=L.she.times.length:=AA;unfold nxtF at he ⊢
 generalize YY x t sp k (ZJ t L b)=g at *
 generalize ZJ t L b=d at *
 generalize WQ L b=s at *
 generalize XW k d b L.she=m at *
 have hk2: ¬k=sp.length:=Za
 unfold Wx at he ⊢
 grind
def Xc (m x:Lab):Bool:=decide (m.ready=x.ready)&&decide (m.since<=x.since)
theorem OA {x t sp k} {m y z:Lab} {b:Bool} (hb:Xc m y=true) (hn:Xy x t sp k y b=some z): ∃u,Xy x t sp k m b=some u/\Xc u z=true:=by
 simp only [Xc,ZF,Zs] at hb;obtain ⟨hb1,hb2⟩:=hb
 have hd:ZJ t m b=ZJ t y b:=by simp [ZJ,hb1]
 have hs:WQ m b<=WQ y b:=by grind [WQ]
 unfold Xy at hn ⊢;unfold nxtF at hn ⊢;rw [hd]
 generalize YY x t sp k (ZJ t y b)=g at *
 generalize ZJ t y b=d at *
 generalize WQ y b=s at *
 generalize WQ m b=s2 at *
 generalize XW k d b y.she=h1 at *
 generalize XW k d b m.she=h2 at *
 unfold Wx at hn ⊢
 by_cases c1:g.2.2=0
 ·by_cases c2:k=sp.length
  ·simp only [c1,c2,not_true,if_true,YC] at hn ⊢
   by_cases c3:t.cls<g.1
   ·grind
   ·by_cases c4:t.drive<s+g.1-d
    ·grind
    ·have c5: ¬t.drive<s2+g.1-d:=Za
     simp only [c3,c4,YC,if_true,U8] at hn;subst hn;refine ⟨_,by simp only [c3,c5,YC,if_true];rfl,?_⟩;simp [Xc];omega
  ·simp only [c1,c2,not_true,YC] at hn ⊢
   by_cases c3:(nth sp k).cls<max g.1 (nth sp k).opn
   ·grind
   ·by_cases c4:t.drive<s+g.1-d
    ·grind
    ·have c5: ¬t.drive<s2+g.1-d:=Za
     simp only [c3,c4,YC,if_true,U8] at hn;subst hn;refine ⟨_,by simp only [c3,c5,YC,if_true];rfl,?_⟩;simp [Xc];omega
 grind
def Wb (L:Lab):Int:=L.she.fin
theorem Ng {x t sp} {y z:Lab} {b:Bool} (hn:Xy x t sp sp.length y b=some z):z.she.fin=z.ready:=by
 unfold Xy nxtF Wx at hn
 grind
theorem Hz {x t sp} (ch:Nat->List Bool) (L:Lab):WY Wb none (Kb Xc (Xy x t sp) ch (sp.length+1) 0 [L])=WY Wb none (VG (Xy x t sp) ch (sp.length+1) 0 L):=by
 have h:=RO Wb Xc (Xy x t sp) ch (n:=sp.length+1) (Inv:=fun k y=>k=sp.length+1->y.she.fin=y.ready)
  (fun k y b z _ hn hk=>by
   grind [Ng]) (fun k m y b z _ _ hb hn=>OA hb hn)
  (fun m y h1 h2 hb=>by
   simp only [Xc,ZF,Zs] at hb
   rw [Wb,Wb,h1 rfl,h2 rfl];omega) (sp.length+1) 0 [L] Za (fun y _ hk=>Za)
 rw [h];simp
def UE (r:List Bool) (k:Nat):List Bool:=match r[k]? with | some b=> [b] | none=> [false,true]
theorem Rw (r:List Bool) (n:Nat) (hn:r.length<=n): ∀(j k:Nat),k+j=r.length->IS (UE r) (n-k) k=(YQ (List.replicate (n-r.length) false)).map (r.drop k++ ·)
 | 0,k,h=>by
  have hk:k=r.length:=Za
  subst hk;rw [MC (n:=n) _ _ _ (fun q hq=>by grind [UE])];simp
 | j+1,k,h=>by
  have e:n-k=(n-(k+1))+1:=Za
  have hlt:k<r.length:=Za
  rw [e,IS,Rw r n hn j (k+1) Za]
  have:UE r k= [r[k]]:=by simp [UE,hlt]
  rw [this,U7,List.flatMap_nil,Wl,List.map_map,VX hlt]
  rfl
theorem Hl (r:List Bool) (n:Nat) (hn:r.length<=n):IS (UE r) n 0=(YQ (List.replicate (n-r.length) false)).map (r++ ·):=by
 have:=Rw r n hn r.length 0 Za
 grind
def XB (r:List Bool) (n:Nat):List (List Bool):=(YQ (List.replicate (n-r.length) false)).map (r++ ·)
def YK (r:List Bool) (n:Nat):List Bool:=r++List.replicate (n-r.length) false
def Yl (x:Inst) (t:Typ) (sp:List Stp) (st:Int) (r:List Bool):She×Int :=
 match WY Wb none ((XB r (sp.length+1)).filterMap (Y6 (Xy x t sp) 0 (labF t st))) with
 | some L=>(L.she,0)
 | none=>(zShe,(Xb x t sp 0 (labF t st) (YK r (sp.length+1))).2)
theorem IB {x t sp} {st:Int} {r:List Bool} (hr:r.length<=sp.length+1):Yl x t sp st r=match WY Wb none (Kb Xc (Xy x t sp) (UE r) (sp.length+1) 0 [labF t st]) with
 | some L=>(L.she,0)
 | none=>(zShe,(Xb x t sp 0 (labF t st) (YK r (sp.length+1))).2):=by
 rw [Hz,VG,Hl r _ hr];rfl
theorem NA {x t sp} : ∀(bs:List Bool) (k:Nat) (L:Lab),L.she.times.length=k->k+bs.length=sp.length+1->0<bs.length->(Xb x t sp k L bs).2=0->(Xb x t sp k L bs).1.she.times.length=sp.length
 | [],k,L,h1,h2,h3,h=>by simp at h3
 | b::bs,k,L,h1,h2,_,h=>by
  rw [Xb] at h ⊢
  by_cases h4:(nxtF x t sp k L b).2=0
  ·simp only [h4,if_true] at h ⊢
   cases bs with
   | nil =>
    simp at h2;subst h2;rw [Xb];unfold nxtF at h4 ⊢;unfold Wx at h4 ⊢
    split at h4
    ·simp at h4
    ·rename_i c1;rw [if_neg c1];simp only [if_true] at h4 ⊢
     split at h4
     ·simp at h4
     ·rename_i c2;rw [if_neg c2]
      split at h4
      ·simp at h4
      simp_all [if_neg,AA]
   | cons b2 bs =>
    simp at h2;exact NA (b2::bs) (k+1) _ (FW h1 h4 Za) (by simp;omega) Zb h
  grind
theorem bestF_len {x t sp} {st:Int} {r:List Bool} (hr:r.length<=sp.length+1) (h:(Yl x t sp st r).2=0):(Yl x t sp st r).1.times.length=sp.length:=by
 unfold Yl at h ⊢
 cases hf:WY Wb none ((XB r (sp.length+1)).filterMap (Y6 (Xy x t sp) 0 (labF t st))) with
 | none =>
  rw [hf] at h;simp only at h ⊢;exfalso
  have hm:YK r (sp.length+1)∈XB r (sp.length+1):=by
   grind [XB,YK,fromB_next]
  have h2:Y6 (Xy x t sp) 0 (labF t st) (YK r (sp.length+1))=some (Xb x t sp 0 (labF t st) (YK r (sp.length+1))).1:=by rw [Yw,if_pos h]
  have h3:(Xb x t sp 0 (labF t st) (YK r (sp.length+1))).1∈(XB r (sp.length+1)).filterMap (Y6 (Xy x t sp) 0 (labF t st)):=KD.2 ⟨_,hm,h2⟩;generalize (XB r (sp.length+1)).filterMap (Y6 (Xy x t sp) 0 (labF t st))=l at hf h3
  cases l with
  | nil=>simp at h3
  | cons a l =>
   rw [WY] at hf;obtain ⟨z,e,_⟩:=Vv Wb l a
   grind
 | some L =>
  simp only;have hm:=fmL_mem _ _ hf;obtain ⟨bs,hbs,hrun⟩:=KD.1 hm;rw [Yw] at hrun
  split at hrun
  ·rename_i h5;simp at hrun;subst hrun;obtain ⟨q,hq,rfl⟩:=XM.1 hbs;have hql:=fromB_len _ _ hq;simp at hql;exact NA _ 0 _ rfl (by grind) (by grind) h5
  ·cases hrun
where
 fmL_mem: ∀(l:List Lab) (L:Lab),WY Wb none l=some L->L∈l
 | [],L,h=>by simp [WY] at h
 | a::l,L,h=>by
  rw [WY] at h;exact fmL_mem2 l a L h
 fmL_mem2: ∀(l:List Lab) (a L:Lab),WY Wb (some a) l=some L->L∈a::l
 | [],a,L,h=>by grind [WY]
 | y::l,a,L,h=>by
  rw [WY] at h
  split at h
  ·have:=fmL_mem2 l y L h;grind
  ·have:=fmL_mem2 l a L h;grind
 fromB_len: ∀(l q:List Bool),q∈YQ l->q.length=l.length
 | [],q,h=>by grind [YQ]
 | b::bs,q,h=>by
  rw [YQ] at h
  split at h
  ·obtain ⟨q',hq,rfl⟩:=XM.1 h;simp [fromB_len bs q' hq]
  ·rcases Xg.1 h with h | h
   ·obtain ⟨q',hq,rfl⟩:=XM.1 h;simp [fromB_len bs q' hq]
   ·obtain ⟨q',hq,rfl⟩:=XM.1 h;simp [fromB_len (List.replicate bs.length false) q' hq]
 termination_by l=>l.length
 decreasing_by all_goals simp
def Xh (x:Inst) (v:Vis):Stp:=if v.drp=true then (nth x.orders v.order.toNat).drp else (nth x.orders v.order.toNat).pick
def ZM (x:Inst) (l:List Vis):List Stp:=l.map (Xh x)
def Yh (t:Typ) (s:Int):Bool:=decide (0<=t.skills)&&decide (0<=s)&&(List.range 63).all fun i=> !s.toNat.testBit i||t.skills.toNat.testBit i
def VQ (a c:List Int):Bool:=decide (a.length=c.length)&&(List.range a.length).all fun i=>decide (nth a i<=nth c i)
def Qb (x:Inst) (c:List Int) (l:List Vis):Bool:=(List.range (l.length+1)).all fun n=>VQ (Y9 x l n) c
def ZC (x:Inst) (r:Rte):Typ:=nth x.types r.typ.toNat
def Us (l:List Vis) (i:Nat):Bool:= !((l.take i).any fun v=>decide (v.order=(nth l i).order))
def Xp (k t:Int):Bool:=decide (k≠ -1)&&decide (k≠t)
def chgF (x:Inst) (l:List Vis) (t:Int):Nat->Int×Int
 | 0=>(0,0)
 | n+1=>if Us l n=true then ((chgF x l t n).1+(if Xp (nth x.orders (nth l n).order.toNat).now t=true then 1 else 0),(chgF x l t n).2+(if Xp (nth x.orders (nth l n).order.toNat).last t=true then 1 else 0)) else chgF x l t n
def DC (x:Inst) (r:Rte) (s:She):Sco :=
 ⟨(ZC x r).fixed+(ZC x r).perMile*s.miles+(ZC x r).perTick*(s.fin-(ZC x r).opn),(chgF x r.visits r.typ r.visits.length).1,(chgF x r.visits r.typ r.visits.length).2,(s.fin-(ZC x r).opn).tdiv 64*(s.fin-(ZC x r).opn).tdiv 64⟩
def XS (x:Inst) (r:Rte):Int :=
 if ¬(0<=r.typ/\r.typ<(x.types.length:Int)) then 2
 else if ¬Xf x r.visits=0 then Xf x r.visits
 else if (r.visits.any fun v=> !Yh (ZC x r) (nth x.orders v.order.toNat).skills)=true then 18
 else if Qb x (ZC x r).cap r.visits=false then 17
 else if ¬(0<=r.start/\r.start<=4096/\r.rests.length<=r.visits.length+1) then 2
 else 0
def Xu (x:Inst) (r:Rte):She×Int:=Yl x (ZC x r) (ZM x r.visits) r.start r.rests
def Xv (x:Inst) (r:Rte):Int:=if XS x r=0 then (Xu x r).2 else XS x r
def X4 (x:Inst) (r:Rte):She:=if Xv x r=0 then (Xu x r).1 else zShe
def Wa (x:Inst) (r:Rte):Sco:=if Xv x r=0 then DC x r (Xu x r).1 else zSco
def Zc9 : Stp:=⟨0,0,0,0⟩
def MT (x:Inst) (v:Vis):Bool:=decide (0<=v.order)&&decide (v.order<(x.orders.length:Int))
def K3 (x:Inst) (v:Vis):Bool:=MT x v&&decide (0<=(Xh x v).place)
def CV (x:Inst) (v:Vis):Stp:=if MT x v=true then Xh x v else Zc9
theorem NV (x:Inst) (v:Vis) (ho:x.orders.length<=1048576):PT 181 [.p (Zv x),.p (Z7 v)] [.p (Fq (CV x v)),.p (.bool (K3 x v))]:=by
 refine Zf [] Tryz.func181 rfl ZaG ?_;simp (disch:=omega) only [Tryz.f181,go_sem,seval];refine gF ?_ ?_<;>intro h1<;>simp (disch:=omega) only [Sh.out h1,go_sem,seval,↓reduceIte]
 ·have e:MT x v=false:=by
   grind [MT]
  simp only [CV,K3,e,Qv,YS,YC,Zc9];exact we
 ·refine cD ?_ ?_<;>intro h2<;>simp (disch:=omega) only [Sh.out h2,go_sem,seval,↓reduceIte]
  ·have e:MT x v=false:=by
    grind [MT]
   simp only [CV,K3,e,Qv,YS,YC,Zc9];exact we
  ·have e:MT x v=true:=by simp [MT];omega
   have hi:v.order.toNat<x.orders.length:=Za
   refine cD ?_ ?_<;>intro hd<;>simp (disch:=omega) only [Sh.out hd,go_sem,seval,↓reduceIte]
   ·have hG:CV x v=(nth x.orders v.order.toNat).drp:=by simp [CV,e,Xh,hd]
    have hV:K3 x v=decide (0<=(nth x.orders v.order.toNat).drp.place):=by simp [K3,e,Xh,hd]
    rw [hG,hV];refine Ff (.cons 0 (.cons 1 (.cons 2 (.cons 3 (.cons 4 (.cons 5 .nil .nil) .nil) (.cons 4 (.cons 3 (.cons 5 .nil .nil) .nil) .nil)) (.cons 4 (.cons 2 (.cons 3 (.cons 5 .nil .nil) .nil) .nil) .nil)) (.cons 4 (.cons 1 (.cons 2 (.cons 3 (.cons 5 .nil .nil) .nil) .nil) .nil) .nil)) (.cons 1 (.cons 0 (.cons 2 (.cons 3 (.cons 4 (.cons 5 .nil .nil) .nil) (.cons 4 (.cons 3 (.cons 5 .nil .nil) .nil) .nil)) (.cons 4 (.cons 2 (.cons 3 (.cons 5 .nil .nil) .nil) .nil) .nil)) (.cons 2 (.cons 0 (.cons 3 (.cons 4 (.cons 5 .nil .nil) .nil) (.cons 4 (.cons 3 (.cons 5 .nil .nil) .nil) .nil)) (.cons 3 (.cons 0 (.cons 4 (.cons 5 .nil .nil) .nil) .nil) .nil)) .nil)) .nil)) mixed Ze ?_
    refine Zc ?_
    repeat' first
     | refine C5 ?_ ?_
     | exact we
     | simp (disch:=omega) only [go_sem,seval,↓reduceIte]
   ·have hG:CV x v=(nth x.orders v.order.toNat).pick:=by simp [CV,e,Xh,hd]
    have hV:K3 x v=decide (0<=(nth x.orders v.order.toNat).pick.place):=by simp [K3,e,Xh,hd]
    rw [hG,hV];refine Ff (.cons 0 (.cons 1 (.cons 2 (.cons 3 (.cons 4 (.cons 5 .nil .nil) .nil) (.cons 4 (.cons 3 (.cons 5 .nil .nil) .nil) .nil)) (.cons 4 (.cons 2 (.cons 3 (.cons 5 .nil .nil) .nil) .nil) .nil)) (.cons 4 (.cons 1 (.cons 2 (.cons 3 (.cons 5 .nil .nil) .nil) .nil) .nil) .nil)) (.cons 1 (.cons 0 (.cons 2 (.cons 3 (.cons 4 (.cons 5 .nil .nil) .nil) (.cons 4 (.cons 3 (.cons 5 .nil .nil) .nil) .nil)) (.cons 4 (.cons 2 (.cons 3 (.cons 5 .nil .nil) .nil) .nil) .nil)) (.cons 2 (.cons 0 (.cons 3 (.cons 4 (.cons 5 .nil .nil) .nil) (.cons 4 (.cons 3 (.cons 5 .nil .nil) .nil) .nil)) (.cons 3 (.cons 0 (.cons 4 (.cons 5 .nil .nil) .nil) .nil) .nil)) .nil)) .nil)) mixed Ze ?_
    refine Zc ?_
    repeat' first
     | refine C5 ?_ ?_
     | exact we
     | simp (disch:=omega) only [go_sem,seval,↓reduceIte]
def Uj (x:Inst) (r:Rte):Bool:=(decide (0<=r.typ)&&decide (r.typ<(x.types.length:Int))&&decide (0<=r.start)&&decide (r.start<=4096)&&decide (r.visits.length<=20))&&r.visits.all (K3 x)
theorem F4 (x:Inst) (r:Rte) (ho:x.orders.length<=1048576) (ht:x.types.length<=1048576) (hl:r.visits.length<=1048576):PC 140 [.p (Zv x),.p (Wy r)] (.bool (Uj x r)):=by
 refine Zd Tryz.func140 rfl Zah ?_;simp (disch:=omega) only [Tryz.f140,go_sem,seval];refine gF ?_ ?_<;>intro h1<;>simp (disch:=omega) only [Sh.out h1,go_sem,seval,↓reduceIte]
 ·simp [Uj];omega
 ·refine gF ?_ ?_<;>intro h2<;>simp (disch:=omega) only [Sh.out h2,go_sem,seval,↓reduceIte]
  ·simp [Uj];omega
  ·refine gF ?_ ?_<;>intro h3<;>simp (disch:=omega) only [Sh.out h3,go_sem,seval,↓reduceIte]
   ·simp [Uj];omega
   ·refine gF ?_ ?_<;>intro h4<;>simp (disch:=omega) only [Sh.out h4,go_sem,seval,↓reduceIte]
    ·simp [Uj];omega
    ·refine cD ?_ ?_<;>intro h5<;>simp (disch:=omega) only [Sh.out h5,go_sem,seval]
     ·simp [Uj];omega
     ·refine Zl [2,3] (fun k:Nat=> [(5,.p (.int .i64 k))]) (fun _=> [Zj x,Xt r]) (fun k=>k<=r.visits.length/\ ∀j,j<k->K3 x (nth r.visits j)=true) (fun k=>r.visits.length-k) 0 Zb (Weak.mk ?_) ?_
      ·simp (disch:=omega) only [Zj,Xt,go_sem,seval]
      ·rintro k ⟨hk,hno⟩;refine KX ?_;refine cD ?_ ?_<;>intro h<;>simp (disch:=omega) only [Sh.out h,go_sem,seval,↓reduceIte]
       ·have hk2:k<r.visits.length:=Za
        refine XY [10,11] 12 mixed Ze Ze Ze Zb (Zc ?_);refine Ac (NV x (nth r.visits k) ho) (Zc ?_);refine Xq 10 _ _ Ze (by refine Zc ?_;exact ⟨rfl,rfl⟩) ?_;refine Zc ?_;refine Xq 11 _ _ Ze (by refine Zc ?_;exact ⟨rfl,rfl⟩) (Ws ?_);refine Zc ?_;refine ZO ?_ ?_<;>intro h6
        ·grind [Zt,Uj]
        ·exact ⟨k+1,⟨Za,Zr.2 ⟨hno,by grind⟩⟩,Za,wk⟩
       ·have hkl:k=r.visits.length:=Za
        subst hkl
        have:r.visits.all (K3 x)=true:=by
         rw [Zz];intro v hv;obtain ⟨j,hj,rfl⟩:=ZT.1 hv
         grind [Zh]
        grind [Uj]
@[go_sem high] theorem ZkE {k k':IntKind} {a b:Int} :Ir false [.p (.int k a),.p (.int k' b)]=some (.int k (max a b)):=by
 grind [Ir]
theorem Pd {l:List Tim} {m:Tim} {d:Int} {b:Bool} :RY (l++ [m]) l.length d b=l++ [{ m with dep:=d,rest:=b }]:=by
 grind [Zh,RY]
theorem bM {x:Inst} {t:Typ} {sp:List Stp} {k:Nat} {d s m:Int} {h:She} (hk:k<sp.length) (ho:(nth sp k).opn<=(nth sp k).cls) (hm:h.miles=m) :
  (Js x t ⟨V2 t sp k,d,s,m⟩ (nth sp k).place (nth sp k).cls 14).2=(Wx t sp k (YY x t sp k d) d s h).2 /\
  ((Wx t sp k (YY x t sp k d) d s h).2=0->(Js x t ⟨V2 t sp k,d,s,m⟩ (nth sp k).place (nth sp k).cls 14).1=⟨(nth sp k).place,(YY x t sp k d).1,s+(YY x t sp k d).1-d,m+(YY x t sp k d).2.1⟩ /\
   (Wx t sp k (YY x t sp k d) d s h).1=⟨max (YY x t sp k d).1 (nth sp k).opn+(nth sp k).serv,s+(YY x t sp k d).1-d,{ h with times_c:=false,times:=h.times++ [⟨(YY x t sp k d).1,max (YY x t sp k d).1 (nth sp k).opn,0,false⟩],miles:=m+(YY x t sp k d).2.1 }⟩):=by
 have hne: ¬k=sp.length:=Za
 have e:WU x.net t.prof (V2 t sp k) (nth sp k).place d=YY x t sp k d:=by simp [YY,Of,hne]
 unfold Js Wx
 grind
theorem bN {x:Inst} {t:Typ} {sp:List Stp} {d s m:Int} {h:She} (hm:h.miles=m) :
  (Js x t ⟨V2 t sp sp.length,d,s,m⟩ t.dst t.cls 15).2=(Wx t sp sp.length (YY x t sp sp.length d) d s h).2 /\
  ((Wx t sp sp.length (YY x t sp sp.length d) d s h).2=0->(Js x t ⟨V2 t sp sp.length,d,s,m⟩ t.dst t.cls 15).1=⟨t.dst,(YY x t sp sp.length d).1,s+(YY x t sp sp.length d).1-d,m+(YY x t sp sp.length d).2.1⟩ /\
   (Wx t sp sp.length (YY x t sp sp.length d) d s h).1=⟨(YY x t sp sp.length d).1,s+(YY x t sp sp.length d).1-d,{ h with fin:=(YY x t sp sp.length d).1,miles:=m+(YY x t sp sp.length d).2.1 }⟩):=by
 have e:WU x.net t.prof (V2 t sp sp.length) t.dst d=YY x t sp sp.length d:=by simp [YY,Of]
 unfold Js Wx
 grind
def ZcS (s:StD):AM.Obj:= .cells [.p (.int .i64 s.place),.p (.int .i64 s.time),.p (.int .i64 s.driven),.p (.int .i64 s.miles)]
def Je (t:Typ) (sp:List Stp) (k:Nat) (L:Lab) (b:Bool):StD:=⟨V2 t sp k,ZJ t L b,WQ L b,L.she.miles⟩
theorem Zkc {g:FuncId} {args:List V} {a c:PV} {H:List AM.Obj} {K:V->List AM.Obj->Prop} (h:ACalls Tryz.prog g args [] fun x H'=> ∃b:PV,x= .tup [.p a,.p b,.p c]/\H'= []) (k: ∀b:PV,K (.tup [.p a,.p b,.p c]) H) (ha:Xl 0 args=true:=by rfl):ACalls Tryz.prog g args H K :=
 (h.behind ha H).mono fun x H' hq=>by
  obtain ⟨y,H1,⟨b,rfl,rfl⟩,rfl,rfl⟩:=hq
  grind [shV,shVs]
theorem Ya {x:Inst} {l:List Vis} :(ZM x l).length=l.length:=by simp [ZM]
theorem Gt {x:Inst} {l:List Vis} {k:Nat} (h:k<l.length):nth (ZM x l) k=Xh x (nth l k):=by
 grind [Zh,ZM]
theorem UH {P Q:Prop} (h:Q) (e:Q->P:=by intro h;simp (disch:=omega) only [Zq,Zm,Z8,ZZ,go_sem,seval];exact h):P:=e h
theorem sP (x:Inst) (r:Rte) (rests:List Bool) (c:Bool) (hok:TrpOk x (ZC x r) (ZM x r.visits)) (ho:x.orders.length<=1048576) (ht:x.types.length<=1048576) (hne:0<r.visits.length) (hp:Uj x r=true) (hl:rests.length=r.visits.length+1) :
  ACalls Tryz.prog 182 [.p (Zv x),.p (Wy r),.p (.list c (rests.map eB))] [] fun y H'=> ∃d:PV,y= .tup [.p (Fo (Xb x (ZC x r) (ZM x r.visits) 0 (labF (ZC x r) r.start) rests).1.she),.p d,.p (.int .i64 (Xb x (ZC x r) (ZM x r.visits) 0 (labF (ZC x r) r.start) rests).2)]/\H'= []:=by
 have hp2:=hp;simp only [Uj,ZF,Zs] at hp2;obtain ⟨⟨⟨⟨⟨p1,p2⟩,p3⟩,p4⟩,p5⟩,p6⟩:=hp2;have hvis: ∀k,k<r.visits.length->K3 x (nth r.visits k)=true:=fun k hk=>Zz.1 p6 _ (Zt hk)
 have hstop: ∀k,k<r.visits.length->CV x (nth r.visits k)=nth (ZM x r.visits) k:=fun k hk=>by
  simp_all [K3,CV,Gt]
 have hti:r.typ.toNat<x.types.length:=Za
 have hopn:=hok.opn;have hrst:=hok.rst;have htd:ZC x r=nth x.types r.typ.toNat:=rfl
 generalize hT:ZC x r=t at *
 have hsl:(ZM x r.visits).length=r.visits.length:=Ya
 generalize hS:ZM x r.visits=sp at *
 refine Zf [26] Tryz.func182 rfl ZaH ?_;simp (disch:=omega) only [Tryz.f182,go_sem,seval];refine (F4 x r ho ht Za).use (Zc ?_);rw [hp];refine Zc ?_;refine cD ?_ ?_<;>intro h0<;>simp (disch:=omega) only [Sh.out h0,<- htd,go_sem,seval,↓reduceIte]
 ·omega
 ·refine XY [13] 14 mixed Ze Ze Ze Zb (Zc ?_);refine Zo (Nu t ⟨t.src,max t.opn r.start,0,0⟩ (nth rests 0) (by grind)) (Zc ?_);refine Xq 13 _ _ Ze (by refine Zc ?_;exact ⟨rfl,rfl⟩) (Ws ?_);refine Zc ?_;refine XY [6] 7 mixed Ze Ze Ze Zb (Zc ?_);refine Xq 6 _ _ Ze (by refine Zc ?_;exact ⟨rfl,rfl⟩) (Ws ?_);refine Zc ?_;have hL0:LabR 0 (labF t r.start):=⟨by grind [labF],by simp [labF],by simp [labF,zShe]⟩
  have hS0:Gc t ⟨t.src,max t.opn r.start,0,0⟩ (nth rests 0)=Je t sp 0 (labF t r.start) (nth rests 0):=by
   simp only [Gc,Je,V2,ZJ,WQ,labF,zShe,if_true]
   split<;>rfl
  simp (disch:=omega) only [hS0,go_sem,seval]
  refine Z2 [26] [2,3,4,6,9,10,11] (fun q:Nat×Lab×List Int=> [(12,.sl 7 0 q.2.2.length q.2.2.length),(13,.p (.int .i64 q.1))])
   (fun q=> [Zj x,Xt r,.cells [.p (.bool false),.p (.int .i64 0),.p (.list true []),.p (.int .i64 0),.p (.int .i64 0)],Ye t,ZcS (Je t sp q.1 q.2.1 (nth rests q.1)),
    .cells [.p (.bool (XW q.1 (ZJ t q.2.1 (nth rests q.1)) (nth rests q.1) q.2.1.she).rest),.p (.int .i64 (XW q.1 (ZJ t q.2.1 (nth rests q.1)) (nth rests q.1) q.2.1.she).dep),.sl 6 0 (XW q.1 (ZJ t q.2.1 (nth rests q.1)) (nth rests q.1) q.2.1.she).times.length (XW q.1 (ZJ t q.2.1 (nth rests q.1)) (nth rests q.1) q.2.1.she).times.length,.p (.int .i64 0),.p (.int .i64 0)],
    .elems 4 ((XW q.1 (ZJ t q.2.1 (nth rests q.1)) (nth rests q.1) q.2.1.she).times.map eTim),.elems 1 (q.2.2.map eI)])
   (fun q=>q.1<=r.visits.length/\Xb x t sp 0 (labF t r.start) rests=Xb x t sp q.1 q.2.1 (rests.drop q.1)/\LabR q.1 q.2.1/\q.2.1.she.times.length=q.1/\q.2.1.she.fin=0/\(0<q.1->q.2.1.she.times_c=false)/\q.2.2.length=q.1) (fun q=>r.visits.length-q.1) (0,labF t r.start,[])
   ⟨Zb,Zb,hL0,by rfl,by rfl,Zb,Zb⟩ ((Weak.nilC (o:=5) (j:=2) 4 rfl rfl Zb).trans (Weak.ofNil 12 1 rfl Zb (Weak.mk ?_))) ?_
  ·simp (disch:=omega) only [Zj,Xt,Ye,ZcS,Je,V2,XW,labF,zShe,Zm,ZE,Z8,ZZ,ZK,Zy,go_sem,seval]
  ·rintro ⟨k,L,ds⟩ ⟨hk,hrun,hL,hlen,hfin,hclip,hds⟩;simp only at hk hrun hL hlen hfin hclip hds
   have hmlen:(XW k (ZJ t L (nth rests k)) (nth rests k) L.she).times.length=k:=by grind [AA]
   have hd:=Ks hok hL (nth rests k);have hs:=Gq hL (nth rests k);have hg:=IX hok hL (nth rests k);have hmi:=hL.mil
   generalize hm:XW k (ZJ t L (nth rests k)) (nth rests k) L.she=m at *
   have hmm:m.miles=L.she.miles:=by rw [<- hm,KG]
   have hmf:m.fin=0:=by grind [HF]
   have hdrop:rests.drop k=nth rests k::rests.drop (k+1):=by grind [VX,Zh]
   have hnx:nxtF x t sp k L (nth rests k)=Wx t sp k (YY x t sp k (ZJ t L (nth rests k))) (ZJ t L (nth rests k)) (WQ L (nth rests k)) m:=by rw [nxtF,hm]
   rw [hdrop,Xb] at hrun;simp (disch:=omega) only [Zj,Xt,Ye,ZcS,go_sem,seval];refine cD ?_ ?_<;>intro h<;>simp (disch:=omega) only [Sh.out h,go_sem,seval,↓reduceIte]
   ·have hk2:k<r.visits.length:=Za
    have hsp:=hok.stp _ (ZX (show k<sp.length by omega));refine XY [10,11] 12 mixed Ze Ze Ze Zb (Zc ?_);refine Ac (NV x (nth r.visits k) ho) (Zc ?_);refine Xq 10 _ _ Ze (by refine Zc ?_;exact ⟨rfl,rfl⟩) ?_;refine Zc ?_;refine Xq 11 _ _ Ze (by refine Zc ?_;exact ⟨rfl,rfl⟩) (Ws ?_);simp (disch:=omega) only [hstop k hk2,go_sem,seval];obtain ⟨f1,f2⟩:=bM (x:=x) (t:=t) (d:=ZJ t L (nth rests k)) (s:=WQ L (nth rests k)) (h:=m) (show k<sp.length by omega) hsp.2.1 hmm
    have he2:WU x.net t.prof (V2 t sp k) (nth sp k).place (ZJ t L (nth rests k))=YY x t sp k (ZJ t L (nth rests k)):=by
     grind [YY,Of]
    refine Yf (NU x t (Je t sp k L (nth rests k)) (nth sp k).place (nth sp k).cls 14 hok.net ?_ ?_ ?_ ?_) ?_
    ·grind [Je]
    ·grind [Je,cP]
    ·grind [Je,cP]
    ·grind [Je,cP]
    have f1':(Js x t (Je t sp k L (nth rests k)) (nth sp k).place (nth sp k).cls 14).2=(nxtF x t sp k L (nth rests k)).2:=by rw [hnx,<- f1];rfl
    refine Zc ?_;rw [f1'];refine cD ?_ ?_<;>intro h3<;>simp (disch:=omega) only [Sh.out h3,go_sem,seval,↓reduceIte]
    ·rw [if_neg h3] at hrun;rw [hrun];simp only [WS,zShe];exact ⟨_,_,Weak.mk (by simp (disch:=omega) only [Zm,go_sem,seval]),.list true [],rfl,rfl⟩
    ·have h3':(nxtF x t sp k L (nth rests k)).2=0:=Z4.1 h3;rw [if_pos h3'] at hrun;have hL':=Li hok Za hL h3';rw [hnx] at h3';obtain ⟨f3,f4⟩:=f2 h3';have f3':(Js x t (Je t sp k L (nth rests k)) (nth sp k).place (nth sp k).cls 14).1=⟨(nth sp k).place,(YY x t sp k (ZJ t L (nth rests k))).1,WQ L (nth rests k)+(YY x t sp k (ZJ t L (nth rests k))).1-ZJ t L (nth rests k),L.she.miles+(YY x t sp k (ZJ t L (nth rests k))).2.1⟩:=f3
     have hL2:(nxtF x t sp k L (nth rests k)).1=⟨max (YY x t sp k (ZJ t L (nth rests k))).1 (nth sp k).opn+(nth sp k).serv,WQ L (nth rests k)+(YY x t sp k (ZJ t L (nth rests k))).1-ZJ t L (nth rests k),{ m with times_c:=false,times:=m.times++ [⟨(YY x t sp k (ZJ t L (nth rests k))).1,max (YY x t sp k (ZJ t L (nth rests k))).1 (nth sp k).opn,0,false⟩],miles:=L.she.miles+(YY x t sp k (ZJ t L (nth rests k))).2.1 }⟩:=by grind
     simp (disch:=omega) only [f3',go_sem,seval];refine XY [13] 14 mixed Ze Ze Ze Zb (Zc ?_);refine Xq 13 _ _ Ze (by refine Zc ?_;exact ⟨rfl,rfl⟩) (Ws ?_);refine Zc ?_
     generalize (nxtF x t sp k L (nth rests k)).1=L2 at *
     have hS1:Gc t ⟨(nth sp k).place,max (YY x t sp k (ZJ t L (nth rests k))).1 (nth sp k).opn+(nth sp k).serv,WQ L (nth rests k)+(YY x t sp k (ZJ t L (nth rests k))).1-ZJ t L (nth rests k),L.she.miles+(YY x t sp k (ZJ t L (nth rests k))).2.1⟩ (nth rests (k+1))=Je t sp (k+1) L2 (nth rests (k+1)):=by
      rw [hL2];simp only [Gc,Je,V2,ZJ,WQ,Nat.add_sub_cancel,if_neg (show ¬k+1=0 by omega)]
      split<;>rfl
     have hM:XW (k+1) (ZJ t L2 (nth rests (k+1))) (nth rests (k+1)) L2.she= { m with times_c:=false,times:=m.times++ [⟨(YY x t sp k (ZJ t L (nth rests k))).1,max (YY x t sp k (ZJ t L (nth rests k))).1 (nth sp k).opn,ZJ t L2 (nth rests (k+1)),nth rests (k+1)⟩],miles:=L.she.miles+(YY x t sp k (ZJ t L (nth rests k))).2.1 } :=by
      have he:L2.she= { m with times_c:=false,times:=m.times++ [⟨(YY x t sp k (ZJ t L (nth rests k))).1,max (YY x t sp k (ZJ t L (nth rests k))).1 (nth sp k).opn,0,false⟩],miles:=L.she.miles+(YY x t sp k (ZJ t L (nth rests k))).2.1 } :=by rw [hL2]
      rw [he,XW,if_neg Za,Nat.add_sub_cancel]
      grind [Pd]
     have hd2:=Ks hok hL' (nth rests (k+1));refine ZA 8 mixed Ze Ze (Zc ?_);refine Zo (Nu t ⟨(nth sp k).place,max (YY x t sp k (ZJ t L (nth rests k))).1 (nth sp k).opn+(nth sp k).serv,WQ L (nth rests k)+(YY x t sp k (ZJ t L (nth rests k))).1-ZJ t L (nth rests k),L.she.miles+(YY x t sp k (ZJ t L (nth rests k))).2.1⟩ (nth rests (k+1)) (by grind)) (Zc ?_);simp (disch:=omega) only [hS1,go_sem,seval];refine ⟨(k+1,L2,ds++ [L2.since]),⟨Za,hrun,hL',by grind,by grind,by grind,by simp [hds]⟩,Za,Weak.mk ?_⟩
     simp (disch:=omega) only [hM,hmlen,ZH,ZB,ZE,XG,Zq,Zm,go_sem,seval];exact ⟨rfl,by grind⟩
   ·have hkl:k=sp.length:=Za
    subst hkl;obtain ⟨f1,f2⟩:=bN (x:=x) (t:=t) (sp:=sp) (d:=ZJ t L (nth rests sp.length)) (s:=WQ L (nth rests sp.length)) (h:=m) hmm
    have he2:WU x.net t.prof (V2 t sp sp.length) t.dst (ZJ t L (nth rests sp.length))=YY x t sp sp.length (ZJ t L (nth rests sp.length)):=by simp [YY,Of]
    refine Yf (NU x t (Je t sp sp.length L (nth rests sp.length)) t.dst t.cls 15 hok.net ?_ ?_ ?_ ?_) ?_
    ·grind [Je]
    ·grind [Je,cP]
    ·grind [Je,cP]
    ·grind [Je,cP]
    have f1':(Js x t (Je t sp sp.length L (nth rests sp.length)) t.dst t.cls 15).2=(nxtF x t sp sp.length L (nth rests sp.length)).2:=by rw [hnx,<- f1];rfl
    refine Zc ?_;rw [f1'];have hdl:rests.drop (sp.length+1)= []:=Cg Za;rw [hdl,Xb] at hrun;refine cD ?_ ?_<;>intro h3<;>simp (disch:=omega) only [Sh.out h3,go_sem,seval,↓reduceIte]
    ·rw [if_neg h3] at hrun;rw [hrun];simp only [WS,zShe];exact ⟨_,_,Weak.mk (by simp (disch:=omega) only [Zm,go_sem,seval]),.list true [],rfl,rfl⟩
    ·have h3':(nxtF x t sp sp.length L (nth rests sp.length)).2=0:=Z4.1 h3;rw [if_pos h3'] at hrun;rw [hnx] at h3';obtain ⟨f3,f4⟩:=f2 h3';have f3':(Js x t (Je t sp sp.length L (nth rests sp.length)) t.dst t.cls 15).1=⟨t.dst,(YY x t sp sp.length (ZJ t L (nth rests sp.length))).1,WQ L (nth rests sp.length)+(YY x t sp sp.length (ZJ t L (nth rests sp.length))).1-ZJ t L (nth rests sp.length),L.she.miles+(YY x t sp sp.length (ZJ t L (nth rests sp.length))).2.1⟩:=f3;rw [hrun,hnx,f4];simp (disch:=omega) only [f3',go_sem,seval];refine Zp (Weak.fz (o:=6) (by rfl)) ?_
     refine Zp (Weak.fz (o:=7) (by rfl)) (Zg [] _ _ _ _ (UH ?_))
     have hmc:m.times_c=false:=by
      grind [XW]
     exact ⟨_,_,Weak.mk (by simp (disch:=omega) only [hmc,go_sem,seval]),.list false (ds.map eI++ [.int .i64 (WQ L (nth rests sp.length)+(YY x t sp sp.length (ZJ t L (nth rests sp.length))).1-ZJ t L (nth rests sp.length))]),rfl,rfl⟩
theorem nN (x:Inst) (r:Rte) (rests:List Bool) (c:Bool) (hok:TrpOk x (ZC x r) (ZM x r.visits)) (ho:x.orders.length<=1048576) (ht:x.types.length<=1048576) (hne:0<r.visits.length) (hp:Uj x r=true) (hl:rests.length=r.visits.length+1) :
  PT 141 [.p (Zv x),.p (Wy r),.p (.list c (rests.map eB))] [.p (Fo (Xb x (ZC x r) (ZM x r.visits) 0 (labF (ZC x r) r.start) rests).1.she),.p (.int .i64 (Xb x (ZC x r) (ZM x r.visits) 0 (labF (ZC x r) r.start) rests).2)]:=by
 have cr:=sP x r rests c hok ho ht hne hp hl;generalize (Xb x (ZC x r) (ZM x r.visits) 0 (labF (ZC x r) r.start) rests)=q at cr ⊢;obtain ⟨L,e⟩:=q;refine Zf [] Tryz.func141 rfl Zai ?_;simp (disch:=omega) only [Tryz.f141,go_sem,seval];refine Zkc cr fun d=>Zc ?_;exact we
def DW (l:List Bool) (n:Nat):Option (List Bool):=(Yu (l.drop n)).map (l.take n++ ·)
def Pk : Option (List Bool)->PV
 | some l=> .list false (l.map eB)
 | none=> .list true []
theorem KJ : ∀m:Nat,Yu (List.replicate m true)=none
 | 0=>rfl
 | m+1=>by rw [KC,Yu,KJ m];rfl
theorem HI : ∀(a b r:List Bool),Yu b=some r->Yu (a++b)=some (a++r)
 | [],b,r,h=>h
 | x::a,b,r,h=>by rw [ZK,Yu,HI a b r h];rfl
theorem jQ (a:List Bool) (m:Nat):Yu (a++false::List.replicate m true)=some (a++true::List.replicate m false):=by
 grind [HI,Yu,KJ]
theorem NM {o:List Bool} {i:Nat} {b:Bool} :(o.map eB).set i (.bool b)=(o.set i b).map eB:=by rw [UQ];rfl
theorem jP (l:List Bool) (c:Bool) (n:Nat) (hn:n<=l.length) (h0:0<l.length) (hl:l.length<=1048576):PT 142 [.p (.list c (l.map eB)),.p (.int .i64 (n:Nat))] [.p (Pk (DW l n)),.p (.bool (DW l n).isSome)]:=by
 refine Zf [8] Tryz.func142 rfl Zaj ?_;simp (disch:=omega) only [Tryz.f142,go_sem,seval];rw [if_pos ⟨Za,Za⟩];refine Zc ?_;refine Z2 [8] [1] (fun q:Nat×List Bool=> [(6,.sl 0 0 q.2.length q.2.length),(7,.p (.int .i64 ((q.1:Int)-1)))]) (fun q=> [.elems 1 (q.2.map eB)]) (fun q=>n<=q.1/\q.1<=l.length/\q.2=l.take q.1++List.replicate (l.length-q.1) false/\l.drop q.1=List.replicate (l.length-q.1) true) (fun q=>q.1) (l.length,l) (by simp;omega) (Weak.mk ?_) ?_
 ·simp (disch:=omega) only [go_sem,seval]
 ·rintro ⟨j,o⟩ ⟨hj1,hj2,ho,hjt⟩;simp only at hj1 hj2 ho hjt
  have hol:o.length=l.length:=by grind
  refine Zc ?_;refine cD ?_ ?_<;>intro h<;>simp (disch:=omega) only [Sh.out h,go_sem,seval,↓reduceIte]
  ·obtain ⟨i,rfl⟩: ∃i,j=i+1:=⟨j-1,Za⟩
   have hij:(((i+1:Nat):Int)-1)=(i:Int):=Za
   have hat:nth o i=nth l i:=by
    grind [Zh]
   have GV:l.drop i=nth l i::List.replicate (l.length-(i+1)) true:=by
    grind [VX,Zh]
   have hio:i<o.length:=Za
   simp (disch:=first | omega | (simp only [ZB,ZE,ZH,Z0,Xr,XF]<;>omega)) only [Int.add_sub_cancel,UO,hat,hio,go_sem,seval,↓reduceIte];refine cD ?_ ?_<;>intro h2<;>simp (disch:=omega) only [Sh.out h2,go_sem,seval]
   ·have hf:nth l i=false:=by grind
    have hres:DW l n=some (o.set i true):=by
     rw [hf] at GV
     have e:l.drop n=(l.drop n).take (i-n)++false::List.replicate (l.length-(i+1)) true:=by
      rw [<- GV,show l.drop i=(l.drop n).drop (i-n) by simp_all,List.take_append_drop]
     rw [DW,e,jQ,ho];simp only [Ar,U8]
     have e2:l.take (i+1)=l.take n++(l.drop n).take (i-n)++ [nth l i]:=by
      rw [X9 Za,Zh Za]
      congr 1
      have:l.take i=l.take (n+(i-n)):=by congr 1;omega
      grind
     rw [e2,hf]
     have el:(l.take n++(l.drop n).take (i-n)).length=i:=by simp;omega
     rw [KF (l.take n++(l.drop n).take (i-n)),EB _ _ Za,el];simp
    rw [hres];simp (disch:=first | omega | (simp only [ZB,ZE,ZH,Z0,Xr,XF]<;>omega)) only [NM,go_sem,seval,↓reduceIte];refine Zp (Weak.fz (o:=0) (by rfl)) ?_;refine Zg [] _ _ _ _ ?_;simp (disch:=omega) only [Zq,Zm,ZZ,go_sem,seval];simp only [Qx,if_true];exact we (by simp (disch:=omega) only [Pk,JY,go_sem,seval])
   ·have hf:nth l i=true:=by grind
    simp (disch:=first | omega | (simp only [ZB,ZE,ZH,Z0,Xr,XF]<;>omega)) only [NM,go_sem,seval];refine ⟨(i,o.set i false),⟨Za,Za,?_,?_⟩,Za,Weak.mk (by simp (disch:=first | omega | (simp only [ZB,ZE,ZH,Z0,Xr,XF]<;>omega)) only [Qx,go_sem,seval])⟩
    ·grind
    grind
  ·have hjn:j=n:=Za
   have hres:DW l n=none:=by grind [DW,KJ]
   rw [hres];exact we (by simp (disch:=omega) only [Pk,Am,go_sem,seval])
theorem T0 {r q:List Bool} :DW (r++q) r.length=(Yu q).map (r++ ·):=by simp [DW]
theorem aB {l:List Bool} :Pk (some l)= .list false (l.map eB):=rfl
theorem aA : Pk none= .list true []:=rfl
def G4 (b:Option Lab):She:=match b with | some L=>L.she | none=>zShe
def G1 (r:List Bool) (cur:Option (List Bool)):List (List Bool):=match cur with | some q=>(YQ q).map (r++ ·) | none=> []
theorem Dy {r s:List Bool} :G1 r (some s)=(r++s)::G1 r (Yu s):=by
 grind [G1,fromB_next]
theorem Nz {x:Inst} {t:Typ} {sp:List Stp} : ∀(bs:List Bool) (k:Nat) (L:Lab),¬(Xb x t sp k L bs).2=0->(Xb x t sp k L bs).1=WS
 | [],k,L,h=>by simp [Xb] at h
 | b::bs,k,L,h=>by
  rw [Xb] at h ⊢
  split
  ·rename_i c;rw [if_pos c] at h;exact Nz bs _ _ h
  ·rfl
theorem dZ (x:Inst) (r:Rte) (hok:TrpOk x (ZC x r) (ZM x r.visits)) (ho:x.orders.length<=1048576) (ht:x.types.length<=1048576) (hne:0<r.visits.length) (hp:Uj x r=true) (hl:r.rests.length<=r.visits.length+1) :
  PT 91 [.p (Zv x),.p (Wy r)] [.p (Fo (Xu x r).1),.p (.int .i64 (Xu x r).2)]:=by
 have hsl:(ZM x r.visits).length=r.visits.length:=Ya;have hp2:=hp;simp only [Uj,ZF,Zs] at hp2;have hv20:=hp2.1.2;have hrun:=fun rests (c:Bool) (h:rests.length=r.visits.length+1)=>nN x r rests c hok ho ht hne hp h;have hopt:=fun bs=>Yw (x:=x) (t:=ZC x r) (sp:=ZM x r.visits) bs 0 (labF (ZC x r) r.start);unfold Xu Yl
 generalize hS:ZM x r.visits=sp at *
 generalize ZC x r=t at *
 generalize labF t r.start=L0 at *
 refine Zf [5,6] Tryz.func91 rfl vG ?_;simp (disch:=omega) only [Tryz.f91,go_sem,seval];refine (F4 x r ho ht Za).use (Zc ?_);rw [hp];refine Zc ?_;refine cD ?_ ?_<;>intro h0<;>simp (disch:=omega) only [Sh.out h0,go_sem,seval,↓reduceIte]
 ·omega
 ·refine YM (IA 3 rfl rfl (Zc ?_));refine ⟨_,_,Nl (e:=4) rfl Tryz.underlying40 Ze rfl rfl rfl ?_ ?_ ?_,?_⟩
  ·simp
  ·simp;omega
  ·intro q hq;obtain ⟨b,_,rfl⟩:=XM.1 hq
   rfl
  ·have hpl:(YK r.rests (sp.length+1)).length=r.visits.length+1:=by simp [YK];omega
   have hpad:r.rests.map eB++(PV.bool false::List.replicate r.visits.length (PV.bool false)).drop (r.rests.map eB).length=(YK r.rests (sp.length+1)).map eB:=by
    rw [YK,XG,<- KC,List.drop_replicate,Al,hsl,Z0];rfl
   simp only [Z8,ZZ];rw [hpad];have h0r:=hopt (YK r.rests (sp.length+1))
   have cn: ∀s:List Bool,(r.rests++s).length=r.visits.length+1->PT 142 [.p (.list false ((r.rests++s).map eB)),.p (.int .i64 (r.rests.length:Nat))] [.p (Pk ((Yu s).map (r.rests++ ·))),.p (.bool ((Yu s).map (r.rests++ ·)).isSome)]:=fun s hs=>by
    grind [jP,T0]
   have e1:(Xb x t sp 0 L0 (YK r.rests (sp.length+1))).1.she=G4 (Y6 (Xy x t sp) 0 L0 (YK r.rests (sp.length+1))):=by
    rw [h0r]
    split
    ·rfl
    ·rename_i c;rw [Nz _ _ _ c];rfl
   have e2:decide ((Xb x t sp 0 L0 (YK r.rests (sp.length+1))).2=0)=(Y6 (Xy x t sp) 0 L0 (YK r.rests (sp.length+1))).isSome:=by
    grind
   have hrp:=hrun (YK r.rests (sp.length+1)) false hpl;have hall:XB r.rests (sp.length+1)=G1 r.rests (some (List.replicate (sp.length+1-r.rests.length) false)):=rfl;refine Zp (Weak.fz (o:=3) (by rfl)) (Zg [] _ _ _ _ (UH ?_));rw [if_pos hpl];refine Yf hrp (Zc ?_);refine Yf (cn (List.replicate (sp.length+1-r.rests.length) false) hpl) ?_;simp (disch:=omega) only [e1,e2,go_sem,seval]
   have hfm:WY Wb none ((XB r.rests (sp.length+1)).filterMap (Y6 (Xy x t sp) 0 L0))=WY Wb (Y6 (Xy x t sp) 0 L0 (YK r.rests (sp.length+1))) ((G1 r.rests (Yu (List.replicate (sp.length+1-r.rests.length) false))).filterMap (Y6 (Xy x t sp) 0 L0)):=by
    rw [hall,Dy,List.filterMap_cons];rw [show r.rests++List.replicate (sp.length+1-r.rests.length) false=YK r.rests (sp.length+1) from rfl]
    cases Y6 (Xy x t sp) 0 L0 (YK r.rests (sp.length+1)) with
    | none=>rfl
    | some L=>rfl
   clear hall;generalize WY Wb none ((XB r.rests (sp.length+1)).filterMap (Y6 (Xy x t sp) 0 L0))=res at hfm ⊢;generalize (Xb x t sp 0 L0 (YK r.rests (sp.length+1))).2=err0
   refine Zl [2,3,4,8,9] (fun q:Option (List Bool)×Option Lab=> [(7,.p (Pk (q.1.map (r.rests++ ·)))),(10,.p (.bool q.2.isSome)),(11,.p (.bool (q.1.map (r.rests++ ·)).isSome))])
    (fun q=> [Zj x,Xt r,.cells [.p (.bool false),.p (.int .i64 0),.p (.list true []),.p (.int .i64 0),.p (.int .i64 0)],.dead,.cells [.p (.bool (G4 q.2).rest),.p (.int .i64 (G4 q.2).dep),.p (.list (G4 q.2).times_c ((G4 q.2).times.map eTim)),.p (.int .i64 (G4 q.2).fin),.p (.int .i64 (G4 q.2).miles)]])
    (fun q=>res=WY Wb q.2 ((G1 r.rests q.1).filterMap (Y6 (Xy x t sp) 0 L0))/\ ∀s,q.1=some s->s.length=sp.length+1-r.rests.length) (fun q=>(G1 r.rests q.1).length)
    (Yu (List.replicate (sp.length+1-r.rests.length) false),Y6 (Xy x t sp) 0 L0 (YK r.rests (sp.length+1))) ⟨hfm,fun s hs=>by have:=fromB_next.nlen _ _ hs;grind⟩ (Weak.mk ?_) ?_
   ·simp (disch:=omega) only [Zj,Xt,go_sem,seval]
   ·rintro ⟨cur,b⟩ ⟨hR,hcl⟩;simp only at hR hcl
    cases cur with
    | none =>
     simp only [G1,List.filterMap_nil] at hR;simp (disch:=omega) only [Option.map_none,Am,aA,Zj,Xt,go_sem,seval]
     cases b with
     | none =>
      rw [WY] at hR;subst hR;simp (disch:=omega) only [Am,Vd,go_sem,seval];exact we (by simp (disch:=omega) only [zShe,Zm,go_sem,seval])
     | some m =>
      rw [WY] at hR;subst hR;simp (disch:=omega) only [JY,YB,G4,go_sem,seval];exact we
    | some s =>
     have hsl2:=hcl s rfl;rw [Dy,List.filterMap_cons,hopt] at hR
     have hmu:(G1 r.rests (Yu s)).length<(G1 r.rests (some s)).length:=by rw [Dy];simp
     have hnl: ∀s',Yu s=some s'->s'.length=sp.length+1-r.rests.length:=fun s' hs'=>by grind [fromB_next.nlen]
     have hlen:(r.rests++s).length=r.visits.length+1:=by simp;omega
     have hr1:=hrun (r.rests++s) false hlen;have cn1:=cn s hlen;rw [XG] at hr1 cn1;simp (disch:=omega) only [Ar,JY,aB,Zj,Xt,go_sem,seval];generalize Xb x t sp 0 L0 (r.rests++s)=g at hR hr1;obtain ⟨Lg,eg⟩:=g;simp only at hR hr1;refine Yf hr1 (Zc ?_);refine gT ?_ ?_<;>intro h1<;>simp (disch:=omega) only [Sh.out h1,go_sem,seval,↓reduceIte]
     ·subst h1
      cases b with
      | none =>
       simp (disch:=omega) only [Am,Vd,go_sem,seval];refine Yf cn1 (Zc ?_);exact ⟨(Yu s,some Lg),⟨hR,hnl⟩,hmu,Weak.mk (by simp (disch:=omega) only [G4,JY,go_sem,seval])⟩
      | some m =>
       simp (disch:=omega) only [JY,YB,G4,go_sem,seval];refine cD ?_ ?_<;>intro h2<;>simp (disch:=omega) only [Sh.out h2,go_sem,seval,↓reduceIte]
       ·refine Yf cn1 ?_;refine Zc ?_;exact ⟨(Yu s,some Lg),⟨by rw [hR];simp only [if_true,WY,Wb,h2],hnl⟩,hmu,Weak.mk (by simp (disch:=omega) only [JY,go_sem,seval])⟩
       ·refine Yf cn1 ?_;refine Zc ?_;exact ⟨(Yu s,some m),⟨by rw [hR];simp only [if_true,WY,Wb,h2,YC],hnl⟩,hmu,Weak.mk (by simp (disch:=omega) only [JY,go_sem,seval])⟩
     ·rw [if_neg h1] at hR;refine Yf cn1 (Zc ?_);exact ⟨(Yu s,b),⟨hR,hnl⟩,hmu,wk⟩
def eR (p:Bool×List Int):PV:= .list p.1 (p.2.map eI)
@[go_sem] theorem Zo8 (p:Bool×List Int):eR p= .list p.1 (p.2.map eI):=Zk rfl rfl
theorem fT (L:List (Bool×List Int)) (c:Bool) (d:Nat) (hd:d<=3) (hL:L.length<=1048576) (h: ∀p∈L,p.2.length=d):PC 227 [.p (.list c (L.map eR)),.p (.int .i64 (d:Nat))] (.bool true):=by
 refine Zd Tryz.func227 rfl Za6 ?_
 have e1: ¬(d:Int)<0:=Za
 have e2: ¬(3:Int)<d:=Za
 simp (disch:=omega) only [Tryz.f227,e1,e2,go_sem,seval];refine Zl [0,1] (fun k:Nat=> [(5,.p (.int .i64 k))]) (fun _=> []) (fun k=>k<=L.length) (fun k=>L.length-k) 0 Zb (Weak.mk ?_) ?_
 ·simp (disch:=omega) only [go_sem,seval,↓reduceIte]
 ·intro k hk;refine Zc ?_;refine cD ?_ ?_<;>intro h1<;>simp (disch:=omega) only [Sh.out h1,go_sem,seval,↓reduceIte]
  ·have hk2:k<L.length:=Za
   have hp:=h _ (Zt hk2);simp (disch:=omega) only [hp,go_sem,seval];exact ⟨k+1,Za,Za,wk⟩
def D8 (L:List (Bool×List Int)) (k j:Nat):Int:=((L.take k).map fun p=>nth p.2 j).sum
theorem Hg {L:List (Bool×List Int)} {k j:Nat} (h:k<L.length):D8 L (k+1) j=D8 L k j+nth (nth L k).2 j:=by
 grind [D8,X9,Zh]
theorem Ms {L:List (Bool×List Int)} {d j:Nat} (h: ∀p∈L,p.2.length=d/\ ∀n∈p.2,0<=n/\n<=1000) (hj:j<d): ∀k,k<=L.length->0<=D8 L k j/\D8 L k j<=1000*(k:Int)
 | 0,_=>by simp [D8]
 | k+1,hk=>by
  have ih:=Ms h hj k Za;obtain ⟨h1,h2⟩:=h _ (Zt (show k<L.length by omega));have:=h2 _ (Zt (show j<(nth L k).2.length by omega))
  grind [Hg]
def tI (L:List (Bool×List Int)) (d:Nat):List Int:=(List.range d).map fun j=>D8 L L.length j
theorem tH (L:List (Bool×List Int)) (c:Bool) (d:Nat) (hd:1<=d/\d<=3) (hL:L.length<=1048576) (h: ∀p∈L,p.2.length=d/\ ∀n∈p.2,0<=n/\n<=1000) :
  PT 213 [.p (.list c (L.map eR)),.p (.int .i64 (d:Nat))] [.p (.list false ((tI L d).map eI)),.p (.int .i64 0)]:=by
 refine Zf [13] Tryz.func213 rfl ZaW ?_;simp (disch:=omega) only [Tryz.f213,go_sem,seval];refine (fT L c d hd.2 hL fun p hp=>(h p hp).1).use (Zc ?_);refine Z2 [13] [0,1] (fun q:Nat×List Int=> [(6,.sl 0 0 q.2.length q.2.length),(7,.p (.int .i64 q.1))]) (fun q=> [.elems 1 (q.2.map eI)]) (fun q=>q.1<=d/\q.2=(List.range q.1).map fun j=>D8 L L.length j) (fun q=>d-q.1) (0,[]) Zb (Weak.ofNil 6 1 rfl Zb (Weak.mk ?_)) ?_
 ·simp (disch:=omega) only [Zm,ZE,go_sem,seval,↓reduceIte]
 ·rintro ⟨j,o⟩ ⟨hj,ho⟩;simp only at hj ho
  have hol:o.length=j:=by rw [ho];simp
  refine Zc ?_;refine cD ?_ ?_<;>intro h1<;>simp (disch:=omega) only [Sh.out h1,go_sem,seval,↓reduceIte]
  ·have hj2:j<d:=Za
   refine Zl [0,1,6,7] (fun k:Nat=> [(8,.p (.int .i64 (D8 L k j))),(9,.p (.int .i64 k))]) (fun _=> [.elems 1 (o.map eI)]) (fun k=>k<=L.length) (fun k=>L.length-k) 0 Zb (Weak.mk ?_) ?_
   ·simp (disch:=omega) only [D8,QZ,Zm,List.sum_nil,go_sem,seval,↓reduceIte]
   ·intro k hk;refine Zc ?_;refine cD ?_ ?_<;>intro h2<;>simp (disch:=omega) only [Sh.out h2,go_sem,seval,↓reduceIte]
    ·have hk2:k<L.length:=Za
     obtain ⟨g1,g2⟩:=h _ (Zt hk2);have g3:=g2 _ (Zt (show j<(nth L k).2.length by omega));have g4:=Ms h hj2 k hk;have g5:=Hg (j:=j) hk2
     have g6:j<(nth L k).2.length:=Za
     refine Zc ?_;exact ⟨k+1,Za,Za,Weak.mk (by simp (disch:=omega) only [g5,go_sem,seval])⟩
    ·have hkl:k=L.length:=Za
     subst hkl;refine ⟨(j+1,o++ [D8 L L.length j]),⟨Za,by grind [Ys]⟩,Za,Weak.mk (by simp (disch:=omega) only [ZH,ZB,ZE,XG,Zq,Zm,go_sem,seval])⟩
  ·have hjd:j=d:=Za
   subst hjd;refine Zp (Weak.fz (o:=0) (by rfl)) ?_;refine Zg [] _ _ _ _ ?_;simp (disch:=omega) only [Zq,Zm,ZZ,go_sem,seval];rw [tI,<- ho];exact we
theorem gC (a b:List Int) (c d:Bool) (ha:a.length<=1048576) (hb:b.length<=1048576):PC 139 [.p (.list c (a.map eI)),.p (.list d (b.map eI))] (.bool (VQ a b)):=by
 refine Zd Tryz.func139 rfl Zag ?_;simp (disch:=omega) only [Tryz.f139,go_sem,seval];refine cD ?_ ?_<;>intro h1<;>simp (disch:=omega) only [Sh.out h1,go_sem,seval]
 ·grind [VQ]
 ·have h1':a.length=b.length:=Za
  refine Zl [0,1] (fun k:Nat=> [(5,.p (.int .i64 k))]) (fun _=> []) (fun k=>k<=a.length/\ ∀j,j<k->nth a j<=nth b j) (fun k=>a.length-k) 0 Zb (Weak.mk ?_) ?_
  ·simp (disch:=omega) only [go_sem,seval,↓reduceIte]
  ·rintro k ⟨hk,hno⟩;refine Zc ?_;refine cD ?_ ?_<;>intro h2<;>simp (disch:=omega) only [Sh.out h2,go_sem,seval,↓reduceIte]
   ·have hk2:k<a.length:=Za
    refine Xn (Zc ?_);refine cD ?_ ?_<;>intro h3<;>simp (disch:=omega) only [Sh.out h3,go_sem,seval,↓reduceIte]
    ·grind [VQ]
    ·exact ⟨k+1,⟨Za,Zr.2 ⟨hno,Za⟩⟩,Za,wk⟩
   ·have hkl:k=a.length:=Za
    simp_all [VQ]
theorem fO (x:Inst) (ht:x.types.length<=1048576):PC 214 [.p (Zv x)] (.int .i64 (dimsOf x.types)):=by
 refine Zd Tryz.func214 rfl ZaX ?_;simp (disch:=omega) only [Tryz.f214,go_sem,seval];refine cD ?_ ?_<;>intro h1<;>simp (disch:=omega) only [Sh.out h1,go_sem,seval,↓reduceIte]
 ·grind [dimsOf]
 simp_all [dimsOf]
structure LdOk (x:Inst):Prop where
 ord:x.orders.length<=10
 typ:x.types.length<=1048576
 dim:1<=dimsOf x.types/\dimsOf x.types<=3
 load: ∀o∈x.orders,(o.load.length:Int)=dimsOf x.types/\ ∀n∈o.load,0<=n/\n<=1000
theorem Qt {x:Inst} (h:InstOk x):LdOk x:=by
 have ht:=h.types.1;simp only [rng,Zs] at ht;have ho:=h.orders
 have h0:0<x.types.length:=Za
 have hcap:=h.types.2 0 h0;unfold Un at hcap;obtain ⟨⟨⟨⟨⟨⟨⟨⟨_,_⟩,_⟩,_⟩,hcap⟩,_⟩,_⟩,_⟩,_⟩:=hcap;simp only [Vt,ZF,Zs,rng] at hcap;refine ⟨ho.1,Za,Za,fun o hm=> ?_⟩;obtain ⟨i,hi,rfl⟩:=ZT.1 hm;have:=(ho.2 i hi).load;rw [Zh hi] at this
 simp_all [loadOk,rng]
def GK (x:Inst) (l:List Vis) (n k:Nat):List (Bool×List Int):=((List.range k).filter fun i=>EK x l n i&&hasO l i).map fun i=>((nth x.orders i).load_c,(nth x.orders i).load)
theorem Th {x:Inst} {l:List Vis} {n k:Nat} :GK x l n (k+1)=GK x l n k++if (EK x l n k&&hasO l k)=true then [((nth x.orders k).load_c,(nth x.orders k).load)] else []:=by
 grind [GK,Ys]
theorem eG {x:Inst} {l:List Vis} {n:Nat} : ∀k,(GK x l n k).length<=k:=fun k=>by
 grind [GK]
theorem pA {x:Inst} {l:List Vis} {n k:Nat} (h:LdOk x) (hk:k<=x.orders.length): ∀p∈GK x l n k,p.2.length=(dimsOf x.types).toNat/\ ∀m∈p.2,0<=m/\m<=1000:=fun p hp=>by
 obtain ⟨i,hi,rfl⟩:=XM.1 hp;have hi2:=ZL.1 (Qy.1 hi).1;have:=h.load _ (Zt (show i<x.orders.length by omega))
 grind
theorem eJ {x:Inst} {l:List Vis} {n:Nat} :tI (GK x l n x.orders.length) (dimsOf x.types).toNat=Y9 x l n:=by
 unfold tI Y9
 grind [D8,GK,DJ,J6]
def vO (x:Inst) (l:List Vis) (n i k:Nat):Bool:=(l.take (min k n)).foldl (fun on v=>if v.order=(i:Int) then !v.drp else on) (decide ((nth x.orders i).pick.place<0))
def O6 (l:List Vis) (i k:Nat):Bool:=(l.take k).any fun v=>decide (v.order=(i:Int))
theorem jY {x:Inst} {l:List Vis} {n i k:Nat} (h:k<l.length):vO x l n i (k+1)=if (nth l k).order=(i:Int) then (if k<n then !(nth l k).drp else vO x l n i k) else vO x l n i k:=by
 grind [vO,X9,Zh]
theorem TJ {l:List Vis} {i k:Nat} (h:k<l.length):O6 l i (k+1)=if (nth l k).order=(i:Int) then true else O6 l i k:=by
 grind [O6,X9,Zh]
theorem rM {x:Inst} {l:List Vis} {n i:Nat} (h:n<=l.length):vO x l n i l.length=EK x l n i:=by
 grind [vO,EK]
theorem iJ {l:List Vis} {i:Nat} :O6 l i l.length=hasO l i:=by grind [O6,hasO]
theorem SS (x:Inst) (l:List Vis) (c:Bool) (n:Nat) (hx:LdOk x) (hl:l.length<=1048576) (hn:n<=l.length) :
  PT 180 [.p (Zv x),.p (.list c (l.map Z7)),.p (.int .i64 (n:Nat))] [.p (.list false ((Y9 x l n).map eI)),.p (.int .i64 0)]:=by
 have ho:=hx.ord;refine Zf [15] Tryz.func180 rfl ZaF ?_;simp (disch:=omega) only [Tryz.f180,go_sem,seval];refine Z2 [15] [1,2,3] (fun q:Nat×List (Bool×List Int)=> [(8,.sl 1 0 q.2.length q.2.length),(9,.p (.int .i64 q.1))]) (fun q=> [Zj x,.elems 1 (q.2.map eR)]) (fun q=>q.1<=x.orders.length/\q.2=GK x l n q.1) (fun q=>x.orders.length-q.1) (0,[]) (by simp [GK]) (Weak.ofNil 8 1 rfl Zb (Weak.mk ?_)) ?_
 ·simp (disch:=omega) only [Zj,Zm,ZE,ZK,Zy,go_sem,seval]
 ·rintro ⟨i,o⟩ ⟨hi,hob⟩;simp only at hi hob
  have hol:o.length<=i:=by grind [eG]
  refine Yd ?_;refine cD ?_ ?_<;>intro h1<;>simp (disch:=omega) only [Sh.out h1,go_sem,seval,↓reduceIte]
  ·have hi2:i<x.orders.length:=Za
   refine Zl [1,2,3,8,9] (fun k:Nat=> [(10,.p (.bool (vO x l n i k))),(11,.p (.bool (O6 l i k))),(12,.p (.int .i64 k))]) (fun _=> [Zj x,.elems 1 (o.map eR)]) (fun k=>k<=l.length) (fun k=>l.length-k) 0 Zb (Weak.mk ?_) ?_
   ·simp (disch:=omega) only [Zj,vO,O6,Nat.zero_min,QZ,Ux,List.any_nil,go_sem,seval]
   ·intro k hk;refine Yd ?_;refine cD ?_ ?_<;>intro h2<;>simp (disch:=omega) only [Sh.out h2,go_sem,seval,↓reduceIte]
    ·have hk2:k<l.length:=Za
     have s1:=jY (x:=x) (n:=n) (i:=i) hk2;have s2:=TJ (i:=i) hk2;refine ZO ?_ ?_<;>intro h3
     ·rw [if_neg h3] at s1 s2;exact ⟨k+1,Za,Za,Weak.mk (by simp (disch:=omega) only [s1,s2,go_sem,seval])⟩
     ·have h3':=Z4.1 h3;rw [if_pos h3'] at s1 s2;refine ZO ?_ ?_<;>intro h4
      ·rw [if_pos Za] at s1;exact ⟨k+1,Za,Za,Weak.mk (by simp (disch:=omega) only [s1,s2,go_sem,seval])⟩
      ·rw [if_neg Za] at s1;exact ⟨k+1,Za,Za,Weak.mk (by simp (disch:=omega) only [s1,s2,go_sem,seval])⟩
    ·have hkl:k=l.length:=Za
     subst hkl;have s3:=Th (x:=x) (l:=l) (n:=n) (k:=i);rw [rM hn,iJ];refine QP ?_ ?_<;>intro h5
     ·refine ZO ?_ ?_<;>intro h6
      ·rw [h5,h6,Bool.and_self,if_pos rfl] at s3;exact ⟨(i+1,o++ [((nth x.orders i).load_c,(nth x.orders i).load)]),⟨Za,by grind⟩,Za,Weak.mk (by simp (disch:=omega) only [ZH,ZB,ZE,XG,Zq,Zm,go_sem,seval])⟩
      ·rw [h5,h6,Bool.and_false,if_neg Zb,Wl] at s3;exact ⟨(i+1,o),⟨Za,by grind⟩,Za,wk⟩
     ·have h5':EK x l n i=false:=Za
      rw [h5',Qv,if_neg Zb,Wl] at s3;exact ⟨(i+1,o),⟨Za,by grind⟩,Za,wk⟩
  ·have hik:i=x.orders.length:=Za
   subst hik
   have hD:dimsOf x.types=((dimsOf x.types).toNat:Int):=by have:=hx.dim;omega
   have hok:=pA (l:=l) (n:=n) hx (ZD _);rw [<- hob] at hok;have hs:=eJ (x:=x) (l:=l) (n:=n);rw [<- hob] at hs;refine Zp (Weak.fz (o:=1) (by rfl)) (Zg [] _ _ _ _ (UH ?_));refine (fO x hx.typ).use (Zc ?_);rw [hD];refine Yf (tH o false (dimsOf x.types).toNat (by have:=hx.dim;omega) Za hok) (Zc ?_);rw [<- hs];exact we
def nH (l:List Int):PV:= .list false (l.map eI)
@[go_sem] theorem yO (l:List Int):nH l= .list false (l.map eI):=Zk rfl rfl
def Qz (x:Inst) (l:List Vis):List (List Int):=(List.range (l.length+1)).map (Y9 x l)
theorem TV (x:Inst) (r:Rte) (hx:InstOk x) (hl:r.visits.length<=1048576) (h0:Xf x r.visits=0) (hchk:PC 88 [.p (Zv x),.p (Wy r)] (.int .i64 (Xf x r.visits))) :
  PT 138 [.p (Zv x),.p (Wy r)] [.p (.list false ((Qz x r.visits).map nH)),.p (.int .i64 0)]:=by
 have hd:=Qt hx;refine Zf [12] Tryz.func138 rfl Zaf ?_;simp (disch:=omega) only [Tryz.f138,go_sem,seval];refine (hchk).use (Zc ?_);simp (disch:=omega) only [h0,go_sem,seval];refine Z2 [12] [2,3] (fun q:Nat×List (List Int)=> [(7,.sl 2 0 q.2.length q.2.length),(8,.p (.int .i64 q.1))]) (fun q=> [Zj x,Xt r,.elems 1 (q.2.map nH)]) (fun q=>q.1<=r.visits.length+1/\q.2=(List.range q.1).map (Y9 x r.visits)) (fun q=>r.visits.length+1-q.1) (0,[]) Zb (Weak.ofNil 7 1 rfl Zb (Weak.mk ?_)) ?_
 ·simp (disch:=omega) only [Zj,Xt,Zm,ZE,ZK,Zy,go_sem,seval]
 ·rintro ⟨k,o⟩ ⟨hk,ho⟩;simp only at hk ho
  have hol:o.length=k:=by rw [ho];simp
  refine KX ?_;refine cD ?_ ?_<;>intro h1<;>simp (disch:=omega) only [Sh.out h1,go_sem,seval,↓reduceIte]
  ·refine Yf (SS x r.visits r.visits_c k hd hl Za) (Zc ?_);exact ⟨(k+1,o++ [Y9 x r.visits k]),⟨Za,by grind [Ys]⟩,Za,Weak.mk (by simp (disch:=omega) only [ZH,ZB,ZE,XG,Zq,Zm,go_sem,seval])⟩
  ·have hkl:k=r.visits.length+1:=Za
   subst hkl;refine Zp (Weak.fz (o:=2) (by rfl)) (Zg [] _ _ _ _ (UH ?_));rw [Qz,<- ho];exact we
theorem gD (x:Inst) (r:Rte) (hx:InstOk x) (hl:r.visits.length<=1048576) (hty:0<=r.typ/\r.typ<(x.types.length:Int)) (h0:Xf x r.visits=0) (hchk:PC 88 [.p (Zv x),.p (Wy r)] (.int .i64 (Xf x r.visits))) :
  PC 90 [.p (Zv x),.p (Wy r)] (.int .i64 (if Qb x (ZC x r).cap r.visits=true then 0 else 17)):=by
 have hd:=Qt hx;have htl:=hd.typ
 have hti:r.typ.toNat<x.types.length:=Za
 have hcp:(nth x.types r.typ.toNat).cap.length<=3:=by
  have hcap:=hx.types.2 _ hti;unfold Un at hcap;obtain ⟨⟨⟨⟨⟨⟨⟨⟨_,_⟩,_⟩,_⟩,hcap⟩,_⟩,_⟩,_⟩,_⟩:=hcap;simp only [Vt,ZF,Zs,rng] at hcap;omega
 have hll:(Qz x r.visits).length=r.visits.length+1:=by simp [Qz]
 have hln: ∀k,k<r.visits.length+1->nth (Qz x r.visits) k=Y9 x r.visits k:=fun k hk=>by
  grind [Zh,Qz]
 have hal: ∀k,(Y9 x r.visits k).length<=3:=fun k=>by rw [E3];have:=hd.dim;omega
 have cl:=TV x r hx hl h0 hchk;unfold ZC
 generalize hL:Qz x r.visits=L at *
 refine Zd Tryz.func90 rfl Ziy ?_
 have e1: ¬r.typ<0:=Za
 have e2: ¬(x.types.length:Int)<=r.typ:=Za
 simp (disch:=omega) only [Tryz.f90,e1,e2,go_sem,seval];refine Yf cl (Zc ?_);refine Zl [2,3,5] (fun k:Nat=> [(7,.p (.int .i64 k))]) (fun _=> [Zj x,Xt r]) (fun k=>k<=r.visits.length+1/\ ∀j,j<k->VQ (Y9 x r.visits j) (nth x.types r.typ.toNat).cap=true) (fun k=>r.visits.length+1-k) 0 Zb (Weak.mk ?_) ?_
 ·simp (disch:=omega) only [Zj,Xt,go_sem,seval]
 ·rintro k ⟨hk,hno⟩;simp (disch:=omega) only [Zj,Xt,hll,go_sem,seval];refine cD ?_ ?_<;>intro h1<;>simp (disch:=omega) only [Sh.out h1,go_sem,seval,↓reduceIte]
  ·have hk2:k<r.visits.length+1:=Za
   have hk3:k<L.length:=Za
   have hk4:=hal k;refine Xn ?_;simp (disch:=omega) only [hln k hk2,go_sem,seval];refine Zo (gC (Y9 x r.visits k) (nth x.types r.typ.toNat).cap false (nth x.types r.typ.toNat).cap_c Za Za) (Zc ?_);refine ZO ?_ ?_<;>intro h2
   ·have h2':VQ (Y9 x r.visits k) (nth x.types r.typ.toNat).cap=false:=by grind
    have: ¬Qb x (nth x.types r.typ.toNat).cap r.visits=true:=fun h=>by
     grind [Qb]
    grind
   ·exact ⟨k+1,⟨Za,Zr.2 ⟨hno,by grind⟩⟩,Za,wk⟩
  ·have:Qb x (nth x.types r.typ.toNat).cap r.visits=true:=by
    grind [Qb]
   grind
def Mm (j:Nat):Int:=if j=63 then-9223372036854775808 else ((pw j:Nat):Int)
theorem Rh {j:Nat} (h:j<63):Mm j=((pw j:Nat):Int):=by rw [Mm,if_neg Za]
theorem ZcB {j:Nat} (h:j<=62):pw j<=4611686018427387904:=by have:=Kf h;rwa [F6] at this
theorem Mn {j:Nat} (h:j<=63):0<Mm j↔j<63:=by
 grind [Mm,F7]
theorem wB {S q:Nat} (hS:S<9223372036854775808) (h:q<=S):IntKind.i64.wrap (q:Int)=(q:Int):=by rw [IntKind.wrap_i64];omega
theorem ZcD {P:Program} {t:TypeId} {S j:Nat} (hS:S<9223372036854775808):Yi P .quo t (.p (.int .i64 (S:Int))) (.p (.int .i64 ((pw j:Nat):Int)))=some (.int .i64 ((S / pw j:Nat):Int)):=by
 have hp:=F7 j;rw [cV Za]
 have e:(S:Int).tdiv ((pw j:Nat):Int)=((S / pw j:Nat):Int):=by
  rfl
 have hle:=Nat.div_le_self S (pw j);rw [e,wB hS hle]
theorem sM {P:Program} {t:TypeId} {S:Nat} :Yi P .rem t (.p (.int .i64 (S:Int))) (.p (.int .i64 2))=some (.int .i64 ((S%2:Nat):Int)):=by
 rfl
theorem Zja {S j:Nat} (hS:S<9223372036854775808):(IntKind.i64.wrap ((S:Int) / ((pw j:Nat):Int))).tmod 2=((S / pw j%2:Nat):Int):=by
 have hle:=Nat.div_le_self S (pw j)
 grind [wB]
theorem jN {P:Program} {t:TypeId} {j:Nat} (h:j<63):Yi P .mul t (.p (.int .i64 ((pw j:Nat):Int))) (.p (.int .i64 2))=some (.int .i64 (Mm (j+1))):=by
 grind [cS,Mm,ZcB,pw,IntKind.wrap_i64]
theorem cY (t:Typ) (s:Int) (h1:t.skills<9223372036854775808) (h2:s<9223372036854775808):PC 89 [.p (X1 t),.p (.int .i64 s)] (.bool (Yh t s)):=by
 refine Zd Tryz.func89 rfl Zix ?_;simp (disch:=omega) only [Tryz.f89,go_sem,seval];refine gF ?_ ?_<;>intro c1<;>simp (disch:=omega) only [Sh.out c1,go_sem,seval,↓reduceIte]
 ·grind [Yh]
 ·refine cD ?_ ?_<;>intro c2<;>simp (disch:=omega) only [Sh.out c2,go_sem,seval]
  ·grind [Yh]
  ·obtain ⟨M,hM⟩: ∃M:Nat,t.skills=(M:Int):=⟨t.skills.toNat,Za⟩;obtain ⟨S,rfl⟩: ∃S:Nat,s=(S:Int):=⟨s.toNat,Za⟩
   have hMl:M<9223372036854775808:=Za
   have hSl:S<9223372036854775808:=Za
   have hab: ∀b:Bool,((List.range 63).all fun i=> !S.testBit i||M.testBit i)=b->Yh t (S:Int)=b:=fun b hb=>by
    simp_all [Yh]
   refine Zl [1,2] (fun j:Nat=> [(5,.p (.int .i64 (Mm j)))]) (fun _=> [Ye t]) (fun j=>j<=63/\ ∀i,i<j->(!S.testBit i||M.testBit i)=true) (fun j=>63-j) 0 Zb (Weak.mk ?_) ?_
   ·simp (disch:=omega) only [Ye,hM,show Mm 0=1 from rfl,go_sem,seval]
   ·rintro j ⟨hj,hno⟩;simp (disch:=omega) only [Ye,hM,go_sem,seval];refine cD ?_ ?_<;>intro c3<;>simp (disch:=omega) only [Sh.out c3,go_sem,seval,↓reduceIte]
    ·have hj2:j<63:=(Mn hj).1 c3;simp (disch:=omega) only [Rh hj2,Zja hSl,IE,go_sem,seval];refine gT ?_ ?_<;>intro c4<;>simp (disch:=omega) only [Sh.out c4,Rh hj2,ZcD hMl,Zja hSl,sM,jN hj2,IE,ID,go_sem,seval]
     ·refine cD ?_ ?_<;>intro c5<;>simp (disch:=omega) only [Sh.out c5,jN hj2,go_sem,seval]
      ·grind
      ·exact ⟨j+1,⟨Za,Zr.2 ⟨hno,by grind⟩⟩,Za,Weak.mk (by simp (disch:=omega) only [hM,go_sem,seval])⟩
     ·exact ⟨j+1,⟨Za,Zr.2 ⟨hno,by grind⟩⟩,Za,Weak.mk (by simp (disch:=omega) only [hM,go_sem,seval])⟩
    ·have hj63:j=63:=by
      rcases WE j 63 with h | h
      ·simp_all [Mn]
      ·omega
     simp_all
theorem OD (l:List Vis) (c:Bool) (n:Nat) (hn:n<l.length) (hl:l.length<=1048576):PC 143 [.p (.list c (l.map Z7)),.p (.int .i64 (n:Nat))] (.bool (Us l n)):=by
 refine Zd Tryz.func143 rfl Zak ?_;simp (disch:=omega) only [Tryz.f143,go_sem,seval];refine Zl [0,1] (fun k:Nat=> [(5,.p (.int .i64 k))]) (fun _=> []) (fun k=>k<=n/\ ∀j,j<k->(nth l j).order≠(nth l n).order) (fun k=>n-k) 0 Zb (Weak.mk ?_) ?_
 ·simp (disch:=omega) only [go_sem,seval,↓reduceIte]
 ·rintro k ⟨hk,hno⟩;refine Zc ?_;refine cD ?_ ?_<;>intro h1<;>simp (disch:=omega) only [Sh.out h1,go_sem,seval,↓reduceIte]
  ·have hk2:k<n:=Za
   have hk3:k<l.length:=Za
   refine Xn (Zc ?_);refine cD ?_ ?_<;>intro h2<;>simp (disch:=omega) only [Sh.out h2,go_sem,seval,↓reduceIte]
   ·grind [Us,KH]
   ·exact ⟨k+1,⟨Za,Zr.2 ⟨hno,h2⟩⟩,Za,wk⟩
  ·have hkn:k=n:=Za
   subst hkn
   have:Us l k=true:=by
    unfold Us;rw [XT,Va];intro v hv;obtain ⟨j,j1,j2,rfl⟩:=Ql hv
    grind
   rw [this]
def CR (c m o w:Int):AM.Obj:= .cells [.p (.int .i64 c),.p (.int .i64 m),.p (.int .i64 o),.p (.int .i64 w)]
theorem BU {x:Inst} {l:List Vis} {t:Int} : ∀n:Nat,(0<=(chgF x l t n).1/\(chgF x l t n).1<=n)/\(0<=(chgF x l t n).2/\(chgF x l t n).2<=n)
 | 0=>by simp [chgF]
 | n+1=>by
  have ih:=BU (x:=x) (l:=l) (t:=t) n
  grind [chgF]
theorem aX (x:Inst) (r:Rte) (s:She) (hty:0<=r.typ/\r.typ<(x.types.length:Int)) (ho:x.orders.length<=1048576) (ht:x.types.length<=1048576) (hl:r.visits.length<=1048576) (hv:Inr x r.visits)
  (hc:0<=(ZC x r).fixed/\(ZC x r).fixed<=100000/\0<=(ZC x r).perMile/\(ZC x r).perMile<=100/\0<=(ZC x r).perTick/\(ZC x r).perTick<=100) (ho2:0<=(ZC x r).opn/\(ZC x r).opn<=4096)
  (hf: -4096<=s.fin/\s.fin<=8192) (hm:0<=s.miles/\s.miles<=1000000) :
  PC 92 [.p (Zv x),.p (Wy r),.p (Fo s)] (Eb (DC x r s)):=by
 have hti:r.typ.toNat<x.types.length:=Za
 unfold DC;have htd:nth x.types r.typ.toNat=ZC x r:=rfl
 generalize ZC x r=t at *
 have e1: ¬r.typ<0:=Za
 have e2: ¬(x.types.length:Int)<=r.typ:=Za
 have p1:0<=t.perMile*s.miles/\t.perMile*s.miles<=100*1000000:=⟨Uw Za Za,VB Za Za Za Za⟩
 have hW: -8192<=s.fin-t.opn/\s.fin-t.opn<=8192:=Za
 have p2: -819200<=t.perTick*(s.fin-t.opn)/\t.perTick*(s.fin-t.opn)<=819200:=by
  generalize s.fin-t.opn=w at hW;have a1:=Bn hW.2 (show 0<=t.perTick by omega);have a2:=Bn hW.1 (show 0<=t.perTick by omega);omega
 have p3: -128<=(s.fin-t.opn).tdiv 64/\(s.fin-t.opn).tdiv 64<=128:=by
  grind
 have p4:0<=(s.fin-t.opn).tdiv 64*(s.fin-t.opn).tdiv 64/\(s.fin-t.opn).tdiv 64*(s.fin-t.opn).tdiv 64<=16384:=by
  generalize (s.fin-t.opn).tdiv 64=q at p3;refine ⟨?_,?_⟩
  ·rcases Av 0 q with h | h
   ·exact Uw h h
   ·exact Int.mul_nonneg_of_nonpos_of_nonpos h h
  ·rcases Av 0 q with h | h
   ·have:=VB p3.2 p3.2 h Za;omega
   ·have h2:0<= -q:=Za
    have:=VB (show-q<=128 by omega) (show-q<=128 by omega) h2 Za
    grind
 refine Zd Tryz.func92 rfl Ziz ?_;simp (disch:=omega) only [Tryz.f92,e1,e2,htd,go_sem,seval];refine Zl [3,4,6,9] (fun k:Nat=> [(10,.p (.int .i64 k))]) (fun k=> [Zj x,Xt r,.cells [.p (.bool s.rest),.p (.int .i64 s.dep),.p (.list s.times_c (s.times.map eTim)),.p (.int .i64 s.fin),.p (.int .i64 s.miles)],CR 0 0 0 0,Ye t,CR (t.fixed+t.perMile*s.miles+t.perTick*(s.fin-t.opn)) (chgF x r.visits r.typ k).1 (chgF x r.visits r.typ k).2 ((s.fin-t.opn).tdiv 64*(s.fin-t.opn).tdiv 64)]) (fun k=>k<=r.visits.length) (fun k=>r.visits.length-k) 0 Zb (Weak.mk ?_) ?_
 ·simp (disch:=omega) only [Zj,Xt,Ye,CR,chgF,go_sem,seval]
 ·intro k hk;have hch:=BU (x:=x) (l:=r.visits) (t:=r.typ) k;simp (disch:=omega) only [Zj,Xt,Ye,CR,go_sem,seval];refine cD ?_ ?_<;>intro h1<;>simp (disch:=omega) only [Sh.out h1,go_sem,seval,↓reduceIte]
  ·have hk2:k<r.visits.length:=Za
   obtain ⟨v1,v2⟩:=hv _ (Zt hk2)
   have e3: ¬(nth r.visits k).order<0:=Za
   have e4: ¬(x.orders.length:Int)<=(nth r.visits k).order:=Za
   have v3:(nth r.visits k).order.toNat<x.orders.length:=Za
   simp (disch:=omega) only [e3,e4,go_sem,seval];refine (OD r.visits r.visits_c k hk2 hl).use (Zc ?_);have hcs:chgF x r.visits r.typ (k+1)=_:=chgF.eq_2 x r.visits r.typ k;refine ZO ?_ ?_<;>intro h2
   ·have h2': ¬Us r.visits k=true:=by grind
    exact ⟨k+1,Za,Za,Weak.mk (by simp (disch:=omega) only [hcs,if_neg h2',go_sem,seval])⟩
   ·have h2':Us r.visits k=true:=by grind
    refine Xn (Zc ?_);refine gT ?_ ?_<;>intro h3<;>simp (disch:=omega) only [Sh.out h3,go_sem,seval,↓reduceIte]
    ·refine cD ?_ ?_<;>intro h4<;>simp (disch:=omega) only [Sh.out h4,go_sem,seval,↓reduceIte]
     ·have hn:Xp (nth x.orders (nth r.visits k).order.toNat).now r.typ=true:=by simp [Xp,h3,h4]
      refine Xn (Zc ?_);refine QP ?_ ?_<;>intro h5
      ·refine ZO ?_ ?_<;>intro h6
       ·have hl2:Xp (nth x.orders (nth r.visits k).order.toNat).last r.typ=true:=by simp [Xp,h5,h6]
        exact ⟨k+1,Za,Za,Weak.mk (by simp (disch:=omega) only [hcs,if_pos h2',hn,hl2,go_sem,seval,↓reduceIte])⟩
       ·have hl2:Xp (nth x.orders (nth r.visits k).order.toNat).last r.typ=false:=by simp_all [Xp]
        exact ⟨k+1,Za,Za,Weak.mk (by simp (disch:=omega) only [hcs,if_pos h2',hn,hl2,Uy,YS,go_sem,seval,↓reduceIte])⟩
      ·have hl2:Xp (nth x.orders (nth r.visits k).order.toNat).last r.typ=false:=by simp_all [Xp]
       exact ⟨k+1,Za,Za,Weak.mk (by simp (disch:=omega) only [hcs,if_pos h2',hn,hl2,Uy,YS,go_sem,seval,↓reduceIte])⟩
     ·have hn:Xp (nth x.orders (nth r.visits k).order.toNat).now r.typ=false:=by simp_all [Xp]
      refine Xn (Zc ?_);refine QP ?_ ?_<;>intro h5
      ·refine ZO ?_ ?_<;>intro h6
       ·have hl2:Xp (nth x.orders (nth r.visits k).order.toNat).last r.typ=true:=by simp [Xp,h5,h6]
        exact ⟨k+1,Za,Za,Weak.mk (by simp (disch:=omega) only [hcs,if_pos h2',hn,hl2,Uy,YS,go_sem,seval,↓reduceIte])⟩
       ·have hl2:Xp (nth x.orders (nth r.visits k).order.toNat).last r.typ=false:=by grind
        exact ⟨k+1,Za,Za,Weak.mk (by simp (disch:=omega) only [hcs,if_pos h2',hn,hl2,Uy,YS,go_sem,seval,↓reduceIte])⟩
      ·have hl2:Xp (nth x.orders (nth r.visits k).order.toNat).last r.typ=false:=by simp_all [Xp]
       exact ⟨k+1,Za,Za,Weak.mk (by simp (disch:=omega) only [hcs,if_pos h2',hn,hl2,Uy,YS,go_sem,seval,↓reduceIte])⟩
    ·have hn:Xp (nth x.orders (nth r.visits k).order.toNat).now r.typ=false:=by simp_all [Xp]
     refine Xn (Zc ?_);refine QP ?_ ?_<;>intro h5
     ·refine ZO ?_ ?_<;>intro h6
      ·have hl2:Xp (nth x.orders (nth r.visits k).order.toNat).last r.typ=true:=by simp [Xp,h5,h6]
       exact ⟨k+1,Za,Za,Weak.mk (by simp (disch:=omega) only [hcs,if_pos h2',hn,hl2,Uy,YS,go_sem,seval,↓reduceIte])⟩
      ·have hl2:Xp (nth x.orders (nth r.visits k).order.toNat).last r.typ=false:=by simp_all [Xp]
       exact ⟨k+1,Za,Za,Weak.mk (by simp (disch:=omega) only [hcs,if_pos h2',hn,hl2,Uy,YS,go_sem,seval,↓reduceIte])⟩
     ·have hl2:Xp (nth x.orders (nth r.visits k).order.toNat).last r.typ=false:=by grind
      exact ⟨k+1,Za,Za,Weak.mk (by simp (disch:=omega) only [hcs,if_pos h2',hn,hl2,Uy,YS,go_sem,seval,↓reduceIte])⟩
  grind
theorem SqOk.len {x:Inst} {l:List Vis} (h:SqOk x l) (hn:x.orders.length<=10):l.length<=20:=by
 have h1:=List.Nodup.length_le_of_subset (l₁ :=l) (l₂ :=(List.range 10).flatMap fun i:Nat=> [(⟨(i:Int),false⟩:Vis),⟨(i:Int),true⟩]) h.nd (fun v hv=>by
  obtain ⟨v1,v2⟩:=h.inr v hv;rw [XQ];refine ⟨v.order.toNat,ZL.2 Za,?_⟩;obtain ⟨o,d⟩:=v
  have e:((o.toNat:Nat):Int)=o:=by grind
  simp_all)
 have h2:((List.range 10).flatMap fun i:Nat=> [(⟨(i:Int),false⟩:Vis),⟨(i:Int),true⟩]).length=20:=rfl;omega
theorem SqOk.vis {x:Inst} {l:List Vis} (h:SqOk x l) {v:Vis} (hv:v∈l):K3 x v=true:=by
 obtain ⟨v1,v2⟩:=h.inr v hv;obtain ⟨i,hi⟩: ∃i:Nat,v.order=(i:Int):=⟨v.order.toNat,Za⟩;have ho:=h.own (i:=i) ⟨v,hv,hi⟩
 have hpl:0<=(Xh x v).place:=by
  unfold Xh;rw [hi,XU]
  cases hd:v.drp with
  | true=>exact ho.isD (by rw [<- hi,<- hd];exact hv)
  | false=>exact ho.isP (by rw [<- hi,<- hd];exact hv)
 simp [K3,MT,v1,v2,hpl]
theorem sE {x:Inst} {r:Rte} (h:SqOk x r.visits) (hn:x.orders.length<=10) (ht:0<=r.typ/\r.typ<(x.types.length:Int)):Uj x r=(decide (0<=r.start)&&decide (r.start<=4096)):=by
 have h1:r.visits.all (K3 x)=true:=Zz.2 fun v hv=>h.vis hv;have h2:=h.len hn
 grind [Uj]
theorem R8 {n:Net} (h:netOk n):netR n/\ ∀a∈n.arcs,0<=a.miles/\a.miles<=10000:=by
 obtain ⟨⟨⟨h1,_⟩,h2⟩,h3⟩:=h
 have ha: ∀a∈n.arcs,nY a/\0<=a.miles/\a.miles<=10000:=fun a hm=>by
  obtain ⟨i,hi,rfl⟩:=ZT.1 hm;have:=h3 i hi;unfold Mc at this;rw [Zh hi] at this;obtain ⟨⟨⟨⟨⟨_,g1⟩,_⟩,g2⟩,g3⟩,g4⟩:=this;refine ⟨⟨g2,g3,fun p hp=> ?_⟩,g1.2.2.1,g1.2.2.2.1⟩;obtain ⟨j,hj,rfl⟩:=ZT.1 hp
  simp_all [KV,Zh,LM,rng]
 exact ⟨⟨Za,Za,fun a hm=>(ha a hm).1⟩,fun a hm=>(ha a hm).2⟩
theorem WK {x:Inst} (hx:InstOk x) {i:Nat} (hi:i<x.types.length):(0<=(nth x.types i).opn/\(nth x.types i).opn<=(nth x.types i).cls/\(nth x.types i).cls<=4096)/\(1<=(nth x.types i).drive/\(nth x.types i).drive<=4096)/\(0<=(nth x.types i).rest/\(nth x.types i).rest<=4096) /\
  (0<=(nth x.types i).fixed/\(nth x.types i).fixed<=100000/\0<=(nth x.types i).perMile/\(nth x.types i).perMile<=100/\0<=(nth x.types i).perTick/\(nth x.types i).perTick<=100)/\(0<=(nth x.types i).skills/\(nth x.types i).skills<=1073741823):=by
 have ht:=hx.types.2 i hi
 simp_all [Un,rng]
theorem K0 {x:Inst} {r:Rte} (hx:InstOk x) (ht:0<=r.typ/\r.typ<(x.types.length:Int)) (h:SqOk x r.visits):TrpOk x (ZC x r) (ZM x r.visits):=by
 have hti:r.typ.toNat<x.types.length:=Za
 obtain ⟨t1,t2,t3,_⟩:=WK hx hti;obtain ⟨n1,n2⟩:=R8 hx.net;refine ⟨n1,n2,t1,t2,t3,fun s hs=> ?_,by rw [Ya];exact h.len hx.orders.1⟩;obtain ⟨v,hv,rfl⟩:=XM.1 hs;obtain ⟨v1,v2⟩:=h.inr v hv
 have hi:v.order.toNat<x.orders.length:=Za
 have ho:=hx.orders.2 _ hi;have hvis:=h.vis hv;have hp:=ho.pstp;have hd:=ho.dstp;simp only [stpOk,Zs] at hp hd;simp only [K3,ZF,Zs] at hvis;have h3:=hvis.2;unfold Xh at h3 ⊢
 grind
theorem NB {x t sp} (h:TrpOk x t sp): ∀(bs:List Bool) (k:Nat) (L:Lab),k+bs.length=sp.length+1->LabR k L->(Xb x t sp k L bs).2=0->LabR (sp.length+1) (Xb x t sp k L bs).1/\(bs≠ []->(Xb x t sp k L bs).1.she.fin=(Xb x t sp k L bs).1.ready)
 | [],k,L,hk,hl,h0=>by
  simp at hk;subst hk;exact ⟨hl,fun h=>absurd rfl h⟩
 | b::bs,k,L,hk,hl,h0=>by
  simp at hk;rw [Xb] at h0 ⊢
  split at h0
  ·rename_i c;rw [if_pos c];obtain ⟨h1,h2⟩:=NB h bs (k+1) _ Za (Li h Za hl c) h0;refine ⟨h1,fun _=> ?_⟩
   cases bs with
   | nil =>
    simp at hk;subst hk;exact Ng (x:=x) (t:=t) (sp:=sp) (y:=L) (b:=b) (by rw [Xy,if_pos c];rfl)
   | cons b2 bs=>grind
  omega
theorem Fi {x t sp} {st:Int} {r:List Bool} (h:TrpOk x t sp) (hs:0<=st/\st<=4096) (hr:r.length<=sp.length+1) (h0:(Yl x t sp st r).2=0):(0<=(Yl x t sp st r).1.fin/\(Yl x t sp st r).1.fin<=8192)/\(0<=(Yl x t sp st r).1.miles/\(Yl x t sp st r).1.miles<=210000):=by
 have hL0:LabR 0 (labF t st):=⟨by have:=h.opn;grind [labF],by simp [labF],by simp [labF,zShe]⟩;have hl:=h.len
 have key: ∀bs∈XB r (sp.length+1),(Xb x t sp 0 (labF t st) bs).2=0->(0<=(Xb x t sp 0 (labF t st) bs).1.she.fin/\(Xb x t sp 0 (labF t st) bs).1.she.fin<=8192)/\(0<=(Xb x t sp 0 (labF t st) bs).1.she.miles/\(Xb x t sp 0 (labF t st) bs).1.she.miles<=210000):=fun bs hbs he=>by
  obtain ⟨q,hq,rfl⟩:=XM.1 hbs;have hql:=bestF_len.fromB_len _ _ hq;simp at hql
  have hne:r++q≠ []:=fun e=>by
   simp_all
  obtain ⟨g1,g2⟩:=NB h (r++q) 0 _ (by simp;omega) hL0 he;rw [g2 hne];have:=g1.rdy;have:=g1.mil;omega
 unfold Yl at h0 ⊢
 cases hf:WY Wb none ((XB r (sp.length+1)).filterMap (Y6 (Xy x t sp) 0 (labF t st))) with
 | some L =>
  simp only;have:=bestF_len.fmL_mem _ _ hf
  grind [Yw]
 | none =>
  grind [zShe]
theorem Tc (x:Inst) (r:Rte) (ho:x.orders.length<=1048576) (ht:x.types.length<=1048576) (hl:r.visits.length<=1048576) (hbad:Uj x r=false\/r.visits.length+1<r.rests.length) :
  PT 91 [.p (Zv x),.p (Wy r)] [.p (Fo zShe),.p (.int .i64 2)]:=by
 refine Zf [] Tryz.func91 rfl vG ?_;simp (disch:=omega) only [Tryz.f91,go_sem,seval];refine (F4 x r ho ht hl).use (Zc ?_);refine gF ?_ ?_<;>intro h1<;>simp (disch:=omega) only [Sh.out h1,go_sem,seval,↓reduceIte]
 ·exact we (by simp (disch:=omega) only [zShe,Zm,go_sem,seval])
 ·have h2:r.visits.length+1<r.rests.length:=hbad.resolve_left (by grind);refine cD ?_ ?_<;>intro h3<;>simp (disch:=omega) only [Sh.out h3,go_sem,seval,↓reduceIte]
  ·exact we (by simp (disch:=omega) only [zShe,Zm,go_sem,seval])
  ·omega
theorem pH (x:Inst) (r:Rte) (hx:InstOk x) (hl:r.visits.length<=1048576):PC 88 [.p (Zv x),.p (Wy r)] (.int .i64 (Xf x r.visits)):=by
 have hf:=XH hx;have hr:=hx.rules;obtain ⟨h1,h2⟩:=VY.1 hr
 have ha:x.apart.length<=1048576:=by
  have h3:=(VY.1 h1).1
  grind [GV]
 have hb:x.before.length<=1048576:=by
  have h3:=(VY.1 h2).1
  grind [GV]
 have:=PA x r (by have:=hf.len;omega) hl ha hb hf.plc
 grind [sJ]
def BY (x:Inst) (r:Rte):V:= .tup [.p (Fo (X4 x r)),.p (Eb (Wa x r)),.p (.int .i64 (Xv x r))]
theorem YD {x:Inst} {r:Rte} {e:Int} (h:Xv x r=e) (h0:e≠0):BY x r= .tup [.p (Fo zShe),.p (Eb zSco),.p (.int .i64 e)]:=by
 simp_all [BY,X4,Wa]
theorem BZ (x:Inst) (r:Rte) (hx:InstOk x) (hl:r.visits.length<=1048576) (hrl:r.rests.length<=1048576):ACalls Tryz.prog 54 [.p (Zv x),.p (Wy r)] [] fun y H'=>y=BY x r/\H'= []:=by
 have hld:=Qt hx;have htl:=hld.typ;have hol:=hld.ord;have chk:=pH x r hx hl
 have htb:x.types.length<=6:=by have:=hx.types.1;simp only [rng,Zs] at this;omega
 refine Zf [] Tryz.func54 rfl Zh5 ?_;simp (disch:=omega) only [Tryz.f54,go_sem,seval];refine gF ?_ ?_<;>intro h1<;>simp (disch:=omega) only [Sh.out h1,go_sem,seval,↓reduceIte]
 ·have e:XS x r=2:=by rw [XS,if_pos Za]
  rw [YD (e:=2) (by rw [Xv,e];rfl) Za];exact we (by simp (disch:=omega) only [zShe,zSco,Zm,go_sem,seval])
 ·refine cD ?_ ?_<;>intro h2<;>simp (disch:=omega) only [Sh.out h2,go_sem,seval,↓reduceIte]
  ·have e:XS x r=2:=by simp_all [XS]
   rw [YD (e:=2) (by rw [Xv,e];rfl) Za];exact we (by simp (disch:=omega) only [zShe,zSco,Zm,go_sem,seval])
  ·have hty:0<=r.typ/\r.typ<(x.types.length:Int):=Za
   have hti:r.typ.toNat<x.types.length:=Za
   refine (chk).use (Zc ?_);refine cD ?_ ?_<;>intro h3<;>simp (disch:=omega) only [Sh.out h3,go_sem,seval,↓reduceIte]
   ·have e:XS x r=Xf x r.visits:=by simp_all [XS]
    rw [YD (e:=Xf x r.visits) (by simp_all [Xv]) h3];exact we (by simp (disch:=omega) only [zShe,zSco,Zm,go_sem,seval])
   ·have h3':=Z4.1 h3;have hsq:=VK h3'
    have hvn:0<r.visits.length:=by
     have:=hsq.ne
     grind
    have hok:=K0 hx hty hsq;have hnum:=WK hx hti
    have hr0:XS x r=if (r.visits.any fun v=> !Yh (ZC x r) (nth x.orders v.order.toNat).skills)=true then 18 else if Qb x (ZC x r).cap r.visits=false then 17 else if ¬(0<=r.start/\r.start<=4096/\r.rests.length<=r.visits.length+1) then 2 else 0:=by
     rw [XS,if_neg (fun h=>h hty),if_neg h3]
    have htyp:nth x.types r.typ.toNat=ZC x r:=rfl;rw [htyp] at hnum;have hf17:=gD x r hx hl hty h3' chk;have hposs:=sE hsq hol hty
    have hsk: ∀k,k<r.visits.length->(nth r.visits k).order.toNat<x.orders.length/\0<=(nth x.orders (nth r.visits k).order.toNat).skills/\(nth x.orders (nth r.visits k).order.toNat).skills<=1073741823:=fun k hk=>by
     obtain ⟨v1,v2⟩:=hsq.inr _ (Zt hk)
     have hi:(nth r.visits k).order.toNat<x.orders.length:=Za
     exact ⟨hi,(hx.orders.2 _ hi).skills⟩
    refine Zl [2,3,4,5] (fun k:Nat=> [(8,.p (.int .i64 k))]) (fun _=> [Zj x,Xt r,.cells [.p (.bool false),.p (.int .i64 0),.p (.list true []),.p (.int .i64 0),.p (.int .i64 0)],CR 0 0 0 0])
     (fun k=>k<=r.visits.length/\ ∀j,j<k->Yh (ZC x r) (nth x.orders (nth r.visits j).order.toNat).skills=true) (fun k=>r.visits.length-k) 0 Zb (Weak.mk ?_) ?_
    ·simp (disch:=omega) only [Zj,Xt,CR,go_sem,seval]
    ·rintro k ⟨hk,hno⟩;simp (disch:=omega) only [Zj,Xt,CR,go_sem,seval];refine cD ?_ ?_<;>intro h4<;>simp (disch:=omega) only [Sh.out h4,go_sem,seval,↓reduceIte]
     ·have hk2:k<r.visits.length:=Za
      obtain ⟨s1,s2,s3⟩:=hsk k hk2;obtain ⟨v1,v2⟩:=hsq.inr _ (Zt hk2);refine Xn ?_;simp (disch:=omega) only [htyp,go_sem,seval];refine Zo (cY (ZC x r) (nth x.orders (nth r.visits k).order.toNat).skills Za Za) (Zc ?_);refine ZO ?_ ?_<;>intro h5
      ·have e:XS x r=18:=by
        rw [hr0,if_pos]
        grind [Zt]
       rw [YD (e:=18) (by rw [Xv,e];rfl) Za];exact we (by simp (disch:=omega) only [zShe,zSco,Zm,go_sem,seval])
      ·exact ⟨k+1,⟨Za,Zr.2 ⟨hno,by grind⟩⟩,Za,wk⟩
     ·have hkl:k=r.visits.length:=Za
      subst hkl
      have hall: ¬(r.visits.any fun v=> !Yh (ZC x r) (nth x.orders v.order.toNat).skills)=true:=fun h=>by
       obtain ⟨v,hv,hb⟩:=WD.1 h;obtain ⟨j,hj,rfl⟩:=ZT.1 hv
       grind [Zh]
      rw [if_neg hall] at hr0;refine (hf17).use (Zc ?_)
      cases hlb:Qb x (ZC x r).cap r.visits with
      | false =>
       have e:XS x r=17:=by grind
       simp only [YS,YC];refine Zc ?_;rw [YD (e:=17) (by rw [Xv,e];rfl) Za];exact we (by simp (disch:=omega) only [zShe,zSco,Zm,go_sem,seval])
      | true =>
       rw [hlb,if_neg Zb] at hr0;simp only [if_true];refine Zc ?_
       by_cases h6:0<=r.start/\r.start<=4096/\r.rests.length<=r.visits.length+1
       ·have e:XS x r=0:=Za
        have hp:Uj x r=true:=by grind
        have ee:Xv x r=(Xu x r).2:=by rw [Xv,if_pos e]
        have cb:=dZ x r hok Za htl hvn hp h6.2.2;have hbr:=Fi hok ⟨h6.1,h6.2.1⟩ (by rw [Ya];exact h6.2.2);have hbr:(Xu x r).2=0->_:=hbr
        change (Xu x r).2=0->(0<=(Xu x r).1.fin/\(Xu x r).1.fin<=8192)/\(0<=(Xu x r).1.miles/\(Xu x r).1.miles<=210000) at hbr
        have es:X4 x r=if (Xu x r).2=0 then (Xu x r).1 else zShe:=by rw [X4,ee]
        have ep:Wa x r=if (Xu x r).2=0 then DC x r (Xu x r).1 else zSco:=by rw [Wa,ee]
        unfold BY;rw [ee,es,ep];clear ee es ep
        generalize Xu x r=q at *
        obtain ⟨sh,eb⟩:=q;simp only at cb hbr ⊢;refine Yf cb (Zc ?_);refine cD ?_ ?_<;>intro h7<;>simp (disch:=omega) only [Sh.out h7,go_sem,seval,↓reduceIte]
        ·exact we (by simp (disch:=omega) only [zShe,zSco,Zm,go_sem,seval])
        ·have h7':=Z4.1 h7
         try rw [if_pos h7',if_pos h7']
         subst h7';obtain ⟨g1,g2⟩:=hbr rfl;refine ZA 5 mixed Ze Ze (Zc ?_);refine Zo (aX x r sh hty Za htl hl hsq.inr hnum.2.2.2.1 Za Za Za) (Zc ?_);exact we
       ·have e:XS x r=2:=Za
        rw [YD (e:=2) (by rw [Xv,e];rfl) Za];refine Yf (Tc x r Za htl hl ?_) ?_
        ·grind
        ·refine Zc ?_;exact we (by simp (disch:=omega) only [zShe,zSco,Zm,go_sem,seval])
theorem bT (x:Inst) (r:Rte) (hx:InstOk x) (hl:r.visits.length<=1048576) (hrl:r.rests.length<=1048576):PC 86 [.p (Zv x),.p (Wy r)] (.int .i64 (Xv x r)):=by
 have ce:=BZ x r hx hl hrl;refine Zd Tryz.func86 rfl Ziv ?_;simp (disch:=omega) only [Tryz.f86,go_sem,seval];unfold BY at ce;refine N4 ce ?_;simp (disch:=omega) only [go_sem,seval,↓reduceIte]
theorem ZcL {p q:Pt} {t:Int} (h1:p.t<=t) (h2:t<q.t) (hp:p.t<=p.a) (hq:q.t<=q.a):t<=G3 p q t:=by
 unfold G3
 have hw:0<q.t-p.t:=Za
 have key:(t-p.a)*(q.t-p.t)<=(t-p.t)*(q.a-p.a)+q.t-p.t-1:=by
  have e:(t-p.t)*(q.a-p.a)-(t-p.a)*(q.t-p.t)=(t-p.t)*(q.a-q.t)+(p.a-p.t)*(q.t-t):=by
   grind
  have h3:0<=(t-p.t)*(q.a-q.t):=Uw Za Za;have h4:0<=(p.a-p.t)*(q.t-t):=Uw Za Za;omega
 have:=Int.le_ediv_of_mul_le hw key;omega
theorem oB {l:List Pt} {t:Int} (hl:W3 l):t<=Jy l t:=by
 obtain ⟨⟨hl1,hl2⟩,hpt⟩:=hl;unfold Jy
 split
 ·rename_i i hi;have hm:=QV hi;have hs:=Qw hi;simp at hm;simp only [Q4,ZF,Zs] at hs;obtain ⟨⟨p1,p2,p3,p4⟩,_⟩:=hpt i Za;obtain ⟨⟨q1,q2,q3,q4⟩,q5⟩:=hpt (i+1) Za
  simp_all [ZcL]
 ·obtain ⟨⟨p1,p2,p3,p4⟩,_⟩:=hpt 0 Za;obtain ⟨⟨q1,q2,q3,q4⟩,_⟩:=hpt (l.length-1) Za;omega
theorem iF {n:Net} {pr f t τ:Int} (hn:netR n) (h:(WU n pr f t τ).2.2=0):τ<=(WU n pr f t τ).1:=by
 unfold WU at h ⊢
 split at h
 ·simp at h
 ·rename_i c1;rw [if_neg c1]
  split at h
  ·grind
  ·rename_i c2;rw [if_neg c2]
   split at h
   ·rename_i c3;rw [if_pos c3];have hA:=Ad c3;have h1:=oB (t:=τ) (hn.2.2 _ hA).1;have h2:=Jr (t:=τ) (fun p hp=>((hn.2.2 _ hA).2.2 p hp).2.2) _ (ZD _)
    grind [Iv]
   ·simp at h
theorem Hb {x t sp} {st:Int} {r:List Bool} (hr:r.length<=sp.length+1) (h:(Yl x t sp st r).2=0): ∃bs:List Bool,bs.length=sp.length+1/\(Xb x t sp 0 (labF t st) bs).2=0/\(Yl x t sp st r).1=(Xb x t sp 0 (labF t st) bs).1.she:=by
 unfold Yl at h ⊢
 cases hf:WY Wb none ((XB r (sp.length+1)).filterMap (Y6 (Xy x t sp) 0 (labF t st))) with
 | none =>
  rw [hf] at h;simp only at h ⊢;exfalso
  have hm:YK r (sp.length+1)∈XB r (sp.length+1):=by
   grind [XB,YK,fromB_next]
  have h2:Y6 (Xy x t sp) 0 (labF t st) (YK r (sp.length+1))=some (Xb x t sp 0 (labF t st) (YK r (sp.length+1))).1:=by rw [Yw,if_pos h]
  have h3:(Xb x t sp 0 (labF t st) (YK r (sp.length+1))).1∈(XB r (sp.length+1)).filterMap (Y6 (Xy x t sp) 0 (labF t st)):=KD.2 ⟨_,hm,h2⟩;generalize (XB r (sp.length+1)).filterMap (Y6 (Xy x t sp) 0 (labF t st))=l at hf h3
  cases l with
  | nil=>simp at h3
  | cons a l =>
   rw [WY] at hf;obtain ⟨z,e,_⟩:=Vv Wb l a
   grind
 | some L =>
  simp only;have hm:=bestF_len.fmL_mem _ _ hf;obtain ⟨bs,hbs,hrun⟩:=KD.1 hm;rw [Yw] at hrun
  split at hrun
  ·rename_i h5;simp at hrun;subst hrun;obtain ⟨q,hq,rfl⟩:=XM.1 hbs;have hql:=bestF_len.fromB_len _ _ hq
   grind
  ·cases hrun
structure Sr where
 rdy:Int
 drv:Int
 deriving Inhabited,DecidableEq
def UF (l:List Sr) (s:Sr):List Sr:=if s∈l then l else l++ [s]
def VH (t:Typ) (l:List Sr) (d v:Int):List Sr:=UF (UF l ⟨d,v⟩) ⟨d+t.rest,0⟩
def Ju (x:Inst) (t:Typ) (from':Int) (stop:Stp) (out:List Sr) (a:Sr):List Sr :=
 if ¬(WU x.net t.prof from' stop.place a.rdy).2.2=0\/t.drive<a.drv+(WU x.net t.prof from' stop.place a.rdy).1-a.rdy then out
 else if stop.cls<max (WU x.net t.prof from' stop.place a.rdy).1 stop.opn then out
 else VH t out (max (WU x.net t.prof from' stop.place a.rdy).1 stop.opn+stop.serv) (a.drv+(WU x.net t.prof from' stop.place a.rdy).1-a.rdy)
def DM (x:Inst) (t:Typ) (from':Int) (st:List Sr) (stop:Stp):List Sr:=st.foldl (Ju x t from' stop) []
theorem TR {l:List Sr} {s a:Sr} :a∈UF l s↔a∈l\/a=s:=by
 grind [UF]
theorem Vf {t:Typ} {l:List Sr} {d v:Int} {a:Sr} :a∈VH t l d v↔a∈l\/a=⟨d,v⟩\/a=⟨d+t.rest,0⟩:=by
 simp [VH,TR,or_assoc]
theorem Rp {n:Nat} (h:n<10):dec n= [UInt8.ofNat (48+n)]:=by rw [dec,dif_pos h]
theorem pP {n:Nat} (h:10<=n) (h2:n<100):dec n= [UInt8.ofNat (48+n / 10),UInt8.ofNat (48+n%10)]:=by
 rw [dec,dif_neg Za,Rp Za];rfl
theorem Me {s:List UInt8} {k k':IntKind} {a b:Int} (h:0<=a/\a<=b/\b<=(s.length:Int)):Ix (some .string) s (.p (.int k a)) (.p (.int k' b))=some (.p (.str ((s.take b.toNat).drop a.toNat))):=by
 simp_all [Ix]
def digT : List UInt8:=(List.range 36).map fun i=>UInt8.ofNat (if i<10 then 48+i else 87+i)
def smalT : List UInt8:=(List.range 100).flatMap fun i=> [UInt8.ofNat (48+i / 10),UInt8.ofNat (48+i%10)]
theorem pQ : ∀n,n<10->(digT.take (n+1)).drop n= [UInt8.ofNat (48+n)]:=by decide
theorem lZ : ∀n,n<100->(smalT.take (2*n+2)).drop (2*n)= [UInt8.ofNat (48+n / 10),UInt8.ofNat (48+n%10)]:=by decide+kernel
theorem sZ (n:Nat) (hn:n<100):PC 298 [.p (.int .i64 (n:Int))] (.str (dec n)):=by
 refine Zd Tryz.func298 rfl Zcd ?_;simp (disch:=omega) only [Tryz.f298,go_sem,seval];refine cD ?_ ?_<;>intro h<;>simp (disch:=omega) only [Sh.out h,go_sem,seval]
 ·rw [Rp Za,Me (by simp;omega)]
  have e1:((n:Int)+1).toNat=n+1:=Za
  have e2:((n:Int)).toNat=n:=Za
  rw [e1,e2];refine (ZW (fun z=>Bs (some (V.p (PV.str z))) _) (pQ n Za)).mpr ?_;simp (disch:=omega) only [go_sem,seval]
 ·rw [pP Za hn,Me (by simp;omega)]
  have e1:((n:Int)*2+2).toNat=2*n+2:=Za
  have e2:((n:Int)*2).toNat=2*n:=Za
  rw [e1,e2];refine (ZW (fun z=>Bs (some (V.p (PV.str z))) _) (lZ n Za)).mpr ?_;simp (disch:=omega) only [go_sem,seval]
theorem gU (n:Nat) (hn:n<100):PC 297 [.p (.int .i64 (n:Int)),.p (.int .i64 10)] (.str (dec n)):=by
 refine Zd Tryz.func297 rfl Zcc ?_
 have h0:(0:Int)<=(n:Int):=Za
 have h1:(n:Int)<100:=Za
 simp (disch:=omega) only [Tryz.f297,h0,h1,go_sem,seval];refine (sZ n hn).use ?_;simp (disch:=omega) only [go_sem,seval]
theorem qV (n:Nat) (hn:n<100):PC 296 [.p (.int .i64 (n:Int))] (.str (dec n)):=by
 refine Zd Tryz.func296 rfl Zcb ?_;simp (disch:=omega) only [Tryz.f296,go_sem,seval];refine (gU n hn).use ?_;simp (disch:=omega) only [go_sem,seval]
theorem Zce (n:Nat) (hn:n<100):PC 295 [.p (.int .i64 (n:Int))] (.str (dec n)):=by
 refine Zd Tryz.func295 rfl Zca ?_;simp (disch:=omega) only [Tryz.f295,go_sem,seval];refine (qV n hn).use ?_;simp (disch:=omega) only [go_sem,seval]
theorem N8 (n a b:Int):PC 282 [.p (.int .i64 n),.p (.int .i64 a),.p (.int .i64 b)] (.bool (decide (a<=n)&&decide (n<=b))):=by
 refine Zd Tryz.func282 rfl ZbX ?_;simp (disch:=omega) only [Tryz.f282,go_sem,seval]
 repeat' (first | (refine gT ?_ ?_<;>intro hq<;>simp (disch:=omega) only [Sh.out hq,go_sem,seval,↓reduceIte]) | (refine V8 (fun hq=> ?_) (fun hq=> ?_)<;>(try simp only [Zs,XZ,Z4] at hq)<;>simp (disch:=omega) only [Sh.out hq,go_sem,seval]) | (refine UK (fun hq=> ?_) (fun hq=> ?_)<;>(try simp only [Zs,XZ,Z4] at hq)<;>simp (disch:=omega) only [Sh.out hq,go_sem,seval]))
 all_goals (simp;first | done | omega)
theorem kG (l:List Pt) (c:Bool) (hl:W3 l):PC 292 [.p (.list c (l.map Hi))] (.list true []):=by
 obtain ⟨⟨hl1,hl2⟩,hpt⟩:=hl;refine Zd Tryz.func292 rfl Zb7 ?_
 have e1: ¬(l.length:Int)=0:=Za
 have e2: ¬(16:Int)<(l.length:Int):=Za
 simp (disch:=omega) only [Tryz.f292,e1,e2,go_sem,seval];refine Zl [0,19,20] (fun k:Nat=> [(3,.p (.list true [])),(21,.p (.int .i64 k))]) (fun _=> []) (fun k=>k<=l.length) (fun k=>l.length-k) 0 Zb (Weak.mk ?_) ?_
 ·simp (disch:=omega) only [go_sem,seval,↓reduceIte]
 ·intro k hk;refine Zc ?_;refine cD ?_ ?_<;>intro h<;>simp (disch:=omega) only [Sh.out h,go_sem,seval,↓reduceIte]
  ·have hk2:k<l.length:=Za
   obtain ⟨⟨p1,p2,p3,p4⟩,q⟩:=hpt k hk2;refine (Zce k Za).use (Zc ?_);refine (N8 (nth l k).t 0 4096).use (Zc ?_);simp (disch:=omega) only [p1,p2,go_sem,seval];refine gF ?_ ?_<;>intro h3<;>simp (disch:=omega) only [Sh.out h3,go_sem,seval,↓reduceIte]
   ·omega
   ·refine cD ?_ ?_<;>intro h4<;>simp (disch:=omega) only [Sh.out h4,go_sem,seval,↓reduceIte]
    ·omega
    ·refine Xn (Zc ?_);refine gT ?_ ?_<;>intro h5<;>simp (disch:=omega) only [Sh.out h5,go_sem,seval,↓reduceIte]
     ·obtain ⟨r1,r2⟩:=q Za;refine gF ?_ ?_<;>intro h6<;>simp (disch:=omega) only [Sh.out h6,go_sem,seval,↓reduceIte]
      ·omega
      ·refine cD ?_ ?_<;>intro h7<;>simp (disch:=omega) only [Sh.out h7,go_sem,seval,↓reduceIte]
       ·omega
       ·exact ⟨k+1,Za,Za,wk⟩
     ·exact ⟨k+1,Za,Za,wk⟩
theorem Rm (p:Pt) (t:Int) (h:0<=p.t/\p.t<=4096) (ht:0<=t/\t<=1073741824):PC 294 [.p (Hi p),.p (.int .i64 t)] (.int .i64 (p.t-t)):=by
 refine Zd Tryz.func294 rfl Zb9 ?_;simp (disch:=omega) only [Tryz.f294,go_sem,seval,↓reduceIte]
theorem sN (l:List Pt) (c:Bool) (hl:W3 l):PC 283 [.p (.list c (l.map Hi))] (.bool true):=by
 refine Zd Tryz.func283 rfl ZbY ?_;simp (disch:=omega) only [Tryz.f283,go_sem,seval];refine (kG l c hl).use ?_;simp (disch:=omega) only [go_sem,seval]
structure PosT (l:List Pt) (t:Int) (i:Nat):Prop where
 le:i<=l.length
 lo: ∀j,j<i->(nth l j).t<t
 hi: ∀j,i<=j->j<l.length->t<=(nth l j).t
theorem ZgW (l:List Pt) (c:Bool) (t:Int) (i:Nat) (hl:W3 l) (ht:0<=t/\t<=1073741824) (hi:PosT l t i):PT 293 [.p (.list c (l.map Hi)),.p (.int .i64 t),.fn (.func 294) [] []] [.p (.int .i64 (i:Int)),.p (.bool (decide (i<l.length)&&decide ((nth l i).t=t)))]:=by
 obtain ⟨⟨hl1,hl2⟩,hpt⟩:=hl;obtain ⟨hi1,hi2,hi3⟩:=hi;refine Zf [] Tryz.func293 rfl Zb8 ?_;simp (disch:=omega) only [Tryz.f293,go_sem,seval];refine Zl [0,1,2,8] (fun q:Nat×Nat=> [(9,.p (.int .i64 q.1)),(10,.p (.int .i64 q.2))]) (fun _=> []) (fun q=>q.1<=i/\i<=q.2/\q.2<=l.length) (fun q=>q.2-q.1) (0,l.length) (by simp;omega) (Weak.mk ?_) ?_
 ·simp (disch:=omega) only [go_sem,seval,↓reduceIte]
 ·rintro ⟨a,b⟩ ⟨h1,h2,h3⟩;simp only at h1 h2 h3;refine Zc ?_;refine cD ?_ ?_<;>intro h<;>simp (disch:=omega) only [Sh.out h,go_sem,seval,↓reduceIte]
  ·have hm:(a+b) / 2<l.length:=Za
   obtain ⟨⟨p1,p2,p3,p4⟩,q⟩:=hpt _ hm
   have hs:((a:Int)+(b:Int)).fdiv (2^min 1 64)=(((a+b) / 2:Nat):Int):=by
    grind
   have em:((((a+b) / 2:Nat)):Int).toNat=(a+b) / 2:=Za
   have hnb:((a+b) / 2<i)↔(nth l ((a+b) / 2)).t-t<0:=by
    grind
   rw [hs];refine Zc ?_;refine (Rm (nth l ((a+b) / 2)) t ⟨p1,p2⟩ ht).use (Zc ?_);refine cD ?_ ?_<;>intro h4<;>simp (disch:=omega) only [Sh.out h4,go_sem,seval,↓reduceIte]
   ·exact ⟨((a+b) / 2+1,b),⟨Za,h2,h3⟩,Za,wk⟩
   ·exact ⟨(a,(a+b) / 2),⟨h1,Za,Za⟩,Za,wk⟩
  ·have:a=i:=Za
   subst this;refine gT ?_ ?_<;>intro h4<;>simp (disch:=omega) only [Sh.out h4,go_sem,seval,↓reduceIte]
   ·have hm:a<l.length:=Za
    obtain ⟨⟨p1,p2,p3,p4⟩,q⟩:=hpt _ hm;refine (Rm (nth l a) t ⟨p1,p2⟩ ht).use (Zc ?_);have e5:((nth l a).t-t=0)=((nth l a).t=t):=propext Za;exact we (by simp (disch:=omega) only [e5,hm,go_sem,seval])
   ·have hm: ¬a<l.length:=Za
    exact we (by simp (disch:=omega) only [hm,go_sem,seval])
theorem CI {l:List Pt} (hl:W3 l) {k:Nat} (hk:k<l.length): ∀j,j<k->(nth l j).t<(nth l k).t:=by
 obtain ⟨_,hpt⟩:=hl
 induction k with
 | zero=>omega
 | succ k ih =>
  intro j hj;obtain ⟨_,q⟩:=hpt (k+1) hk
  grind
theorem sD {l:List Pt} (hl:W3 l) (t:Int): ∃i,PosT l t i:=by
 have: ∀n,n<=l.length-> ∃i,i<=n/\(∀j,j<i->(nth l j).t<t)/\(i<n->t<=(nth l i).t):=by
  intro n
  induction n with
  | zero=>simp
  | succ n ih =>
   grind
 obtain ⟨i,h1,h2,h3⟩:=this l.length (ZD _);refine ⟨i,h1,h2,fun j hj hjl=> ?_⟩;rcases Nat.lt_or_eq_of_le hj with h | h
 ·have:=CI hl hjl i h;omega
 grind
theorem oA {l:List Pt} {t:Int} {i:Nat} (hl:W3 l) (h:PosT l t i) (hi:i<l.length) (e:(nth l i).t=t):Jy l t=(nth l i).a:=by
 by_cases g:i+1<l.length
 ·have m:=CI hl g i Za;rw [Iw g (fun j hj=> ?_) (by grind [Q4]),G3]
  ·rw [e,Int.sub_self,Int.zero_mul,Int.zero_add];rw [Int.ediv_eq_zero_of_lt Za Za];omega
  ·have:(nth l (j+1)).t<=t:=by
    rcases Nat.lt_or_eq_of_le (show j+1<=i by omega) with h1 | h1
    ·have:=h.lo _ h1;omega
    grind
   simp [Q4];omega
 ·have hi1:i=l.length-1:=Za
  rw [Es (fun j hj=> ?_)]
  ·split
   ·grind
   ·have:i=0:=by
     by_cases g2:i=0
     ·exact g2
     ·have:=h.lo 0 Za;omega
    grind
  ·have:(nth l (j+1)).t<=t:=by
    rcases Nat.lt_or_eq_of_le (show j+1<=i by omega) with h1 | h1
    ·have:=h.lo _ h1;omega
    grind
   simp [Q4];omega
theorem oD {l:List Pt} {t:Int} (hl:W3 l) (h:PosT l t 0) (e: ¬(nth l 0).t=t):Jy l t=t+(nth l 0).a-(nth l 0).t:=by
 have h0:=h.hi 0 (ZD _) hl.1.1;rw [Es (fun j hj=> ?_),if_neg Za]
 have:t<(nth l j).t:=by
  by_cases g:j=0
  ·grind
  ·have:=CI hl (show j<l.length by omega) 0 Za;omega
 simp [Q4];omega
theorem oC {l:List Pt} {t:Int} (h:PosT l t l.length) (hl:0<l.length):Jy l t=t+(nth l (l.length-1)).a-(nth l (l.length-1)).t:=by
 rw [Es (fun j hj=> ?_),if_pos (h.lo 0 hl)];have:=h.lo (j+1) hj;simp [Q4];omega
theorem dO {l:List Pt} {t:Int} {i:Nat} (h:PosT l t i) (h0:0<i) (hi:i<l.length) (e: ¬(nth l i).t=t):Jy l t=G3 (nth l (i-1)) (nth l i) t:=by
 have e1:i-1+1=i:=Za
 have h1:=h.lo (i-1) Za;have h2:=h.hi i (ZD _) hi;have:=Iw (l:=l) (t:=t) (i:=i-1) Za (fun j hj=>by have:=h.lo (j+1) Za;simp [Q4];omega) (by grind [Q4]);rw [this,e1]
theorem HV {p q:Pt} {t:Int} (h1:p.t<=t) (h2:t<q.t) (hp:0<=p.t) (hq:q.t<=4096) (ha:p.a<=q.a) (hpa:0<=p.a) (hqa:q.a<=8192) :
  IntKind.i64.wrap (p.a+IntKind.i64.wrap ((IntKind.i64.wrap (IntKind.i64.wrap (IntKind.i64.wrap ((t-p.t)*(q.a-p.a))+(q.t-p.t))-1)).tdiv (q.t-p.t)))=G3 p q t:=by
 have hm:=Gk h1 h2 hp hq ha hpa hqa;unfold G3;generalize hM:(t-p.t)*(q.a-p.a)=m at hm
 have hd:0<=(m+(q.t-p.t)-1) / (q.t-p.t)/\(m+(q.t-p.t)-1) / (q.t-p.t)<=m+(q.t-p.t)-1:=by
  refine ⟨Int.ediv_nonneg Za Za,Int.ediv_le_self _ Za⟩
 rw [IntWalk.i64_in m Za,IntWalk.i64_in (m+(q.t-p.t)) Za,IntWalk.i64_in (m+(q.t-p.t)-1) Za,Int.tdiv_eq_ediv_of_nonneg Za,IntWalk.i64_in ((m+(q.t-p.t)-1) / (q.t-p.t)) Za,IntWalk.i64_in _ Za]
 congr 2
 omega
theorem Pn (l:List Pt) (c:Bool) (t:Int) (hl:W3 l) (ht:0<=t/\t<=1073741824):PC 284 [.p (.list c (l.map Hi)),.p (.int .i64 t)] (.int .i64 (Jy l t)):=by
 obtain ⟨i,hi⟩:=sD hl t;have hl':=hl;obtain ⟨⟨hl1,hl2⟩,hpt⟩:=hl';refine Zd Tryz.func284 rfl ZbZ ?_;simp (disch:=omega) only [Tryz.f284,go_sem,seval];refine Yf (ZgW l c t i hl ht hi) (Zc ?_);obtain ⟨i1,i2,i3⟩:=id hi;refine cD ?_ ?_<;>intro h<;>simp (disch:=omega) only [Sh.out h,go_sem,seval,↓reduceIte]
 ·grind [oA]
 ·refine cD ?_ ?_<;>intro h0<;>simp (disch:=omega) only [Sh.out h0,go_sem,seval]
  ·have:i=0:=Za
   subst this;obtain ⟨p1,p2⟩:=hpt 0 Za;rw [oD hl hi (fun g=>h ⟨Za,g⟩)];refine Xn ?_;simp (disch:=omega) only [go_sem,seval,↓reduceIte]
  ·refine cD ?_ ?_<;>intro h1<;>simp (disch:=omega) only [Sh.out h1,go_sem,seval]
   ·have:i=l.length:=Za
    subst this;obtain ⟨p1,p2⟩:=hpt (l.length-1) Za;rw [oC hi Za]
    have e1:((l.length:Int)-1).toNat=l.length-1:=Za
    refine Xn ?_;simp (disch:=omega) only [go_sem,seval,↓reduceIte]
   ·have g1:i<l.length:=Za
    rw [dO hi Za g1 (fun g=>h ⟨g1,g⟩)];have g2:=CI hl g1 (i-1) Za;obtain ⟨p1,p2⟩:=hpt i g1;obtain ⟨p3,p4⟩:=hpt (i-1) Za
    have e1:((i:Int)-1).toNat=i-1:=Za
    have q1:=i2 (i-1) Za;have q2:=i3 i (ZD _) g1;have q3: ¬(nth l i).t=t:=fun g=>h ⟨g1,g⟩;have q4:=p2 Za;refine XY [9,10,11] 12 mixed Ze Ze Ze Zb ?_;simp (disch:=omega) only [e1,go_sem,seval];refine TU 9 10 _ _ _ _ Ze (by refine Zc ?_;exact ⟨rfl,rfl⟩) (by refine Zc ?_;exact ⟨rfl,rfl⟩) ?_ ?_
    ·refine Xq 10 _ _ Ze (by refine Zc ?_;exact ⟨rfl,rfl⟩) (Xq 11 _ _ Ze (by refine Zc ?_;exact ⟨rfl,rfl⟩) (Ws ?_));refine Zc ?_;refine Xn (Zc ?_);exact ZW (fun z=>V.p (PV.int IntKind.i64 z)) (HV Za Za Za Za Za Za Za)
    ·refine Xq 9 _ _ Ze (by refine Zc ?_;exact ⟨rfl,rfl⟩) (Xq 11 _ _ Ze (by refine Zc ?_;exact ⟨rfl,rfl⟩) (Ws ?_));refine Zc ?_;refine Xn (Zc ?_);exact ZW (fun z=>V.p (PV.int IntKind.i64 z)) (HV Za Za Za Za Za Za Za)
theorem aF (l:List Pt) (c:Bool) (t:Int) (hl:W3 l) (ht:0<=t/\t<=1073741824):PC 264 [.p (.list c (l.map Hi)),.p (.int .i64 t)] (.int .i64 (Jy l t)):=by
 refine Zd Tryz.func264 rfl ZbF ?_;simp (disch:=omega) only [Tryz.f264,go_sem,seval];refine (N8 t 0 1073741824).use (Zc ?_);simp (disch:=omega) only [ht,go_sem,seval];refine (sN l c hl).use (Zc ?_);refine (Pn l c t hl ht).use ?_;simp (disch:=omega) only [go_sem,seval]
theorem Nq (n:Net) (p:Int) (hn:n.places.length<=1048576):PC 237 [.p (BX n),.p (.int .i64 p)] (.bool (KO n p)):=by
 refine Zd Tryz.func237 rfl Zbg ?_;simp (disch:=omega) only [Tryz.f237,go_sem,seval];refine gT ?_ ?_<;>intro h<;>simp (disch:=omega) only [Sh.out h,go_sem,seval,↓reduceIte]
 ·simp [KO,h]
 ·simp [KO,h]
theorem tW (a:Arc):PC 263 [.p (VO a)] (.agg [.int .i64 a.src,.int .i64 a.dst,.int .i64 a.prof]):=by
 refine Zd Tryz.func263 rfl ZbE ?_;simp (disch:=omega) only [Tryz.f263,go_sem,seval,↓reduceIte]
theorem rW (a:Arc) (t:Int) (ha:nY a) (ht:0<=t/\t<=1073741824):PC 239 [.p (VO a),.p (.int .i64 t)] (.int .i64 (Iv a t)):=by
 obtain ⟨h1,h2,h3⟩:=ha;have hr:=Fa h1 ht;have hs:=Jr (t:=t) (fun p hp=>(h3 p hp).2.2);refine Zd Tryz.func239 rfl Zbi ?_;simp (disch:=omega) only [Tryz.f239,go_sem,seval];refine (aF a.travel a.travel_c t h1 ht).use (Zc ?_);refine Zl [1,13,14] (fun k:Nat=> [(5,.p (.int .i64 (Jy a.travel t+Kg a.slow t k))),(15,.p (.int .i64 k))]) (fun _=> [W6 a]) (fun k=>k<=a.slow.length) (fun k=>a.slow.length-k) 0 Zb (Weak.mk ?_) ?_
 ·simp (disch:=omega) only [W6,Kg,Ux,go_sem,seval];simp
 ·intro k hk;have hsk:=hs k hk;simp (disch:=omega) only [W6,go_sem,seval];refine cD ?_ ?_<;>intro h<;>simp (disch:=omega) only [Sh.out h,go_sem,seval,↓reduceIte]
  ·have hk2:k<a.slow.length:=Za
   have hp:=h3 _ (ZX hk2);have hsn:=Bz (t:=t) hk2;refine ZO ?_ ?_<;>intro h4
   ·rw [if_pos h4] at hsn;exact ⟨k+1,Za,Za,Weak.mk (by simp (disch:=omega) only [hsn,Int.add_assoc,go_sem,seval])⟩
   ·rw [if_neg h4] at hsn;exact ⟨k+1,Za,Za,Weak.mk (by simp (disch:=omega) only [hsn,go_sem,seval])⟩
  grind [Iv]
theorem rZ (n:Net) (pr f t:Int) (hn:n.arcs.length<=1048576):PT 238 [.p (BX n),.p (.int .i64 pr),.p (.int .i64 f),.p (.int .i64 t)] [.p (VO (WT n pr f t).1),.p (.bool (WT n pr f t).2)]:=by
 refine Zf [] Tryz.func238 rfl Zbh ?_;simp (disch:=omega) only [Tryz.f238,go_sem,seval];refine Zl [8,10,18,19] (fun k:Nat=> [(20,.p (.int .i64 k))]) (fun _=>Z6 n++ [W6 V7,.cells [.p (.int .i64 f),.p (.int .i64 t),.p (.int .i64 pr)]]) (fun k=>k<=n.arcs.length/\ ∀j,j<k->Vs pr f t (nth n.arcs j)=false) (fun k=>n.arcs.length-k) 0 Zb (Weak.mk ?_) ?_
 ·simp (disch:=omega) only [Z6,W6,V7,Zm,ZK,Zy,go_sem,seval]
 ·rintro k ⟨hk,hno⟩;simp (disch:=omega) only [Z6,W6,V7,Zm,ZK,Zy,go_sem,seval];refine cD ?_ ?_<;>intro h<;>simp (disch:=omega) only [Sh.out h,go_sem,seval,↓reduceIte]
  ·have hk2:k<n.arcs.length:=Za
   have nx:Vs pr f t (nth n.arcs k)=false-> ∀j,j<k+1->Vs pr f t (nth n.arcs j)=false:=fun h=>Zr.2 ⟨hno,h⟩;refine Xn (Zc ?_);refine Zo (tW (nth n.arcs k)) (Zc ?_);refine ZO ?_ ?_<;>intro h1
   ·have e:=ME hk2 hno (by simp [Vs,h1]);obtain ⟨rfl,rfl,rfl⟩:=h1;rw [e];exact we
   ·have e2:Vs pr f t (nth n.arcs k)=false:=by
     simp_all [Vs]
    exact ⟨k+1,⟨Za,nx e2⟩,Za,wk⟩
  ·have hkn:k=n.arcs.length:=Za
   subst hkn;rw [MF hno];exact we (by simp (disch:=omega) only [V7,Zm,go_sem,seval])
theorem vP (n:Net) (pr f t τ:Int) (hn:netR n) (hτ:0<=τ/\τ<=1073741824):PT 221 [.p (BX n),.p (.int .i64 pr),.p (.int .i64 f),.p (.int .i64 t),.p (.int .i64 τ)] [.p (.int .i64 (WU n pr f t τ).1),.p (.int .i64 (WU n pr f t τ).2.1),.p (.int .i64 (WU n pr f t τ).2.2)]:=by
 refine Zf [] Tryz.func221 rfl Za3 ?_;simp (disch:=omega) only [Tryz.f221,go_sem,seval];refine (Nq n f hn.1).use (Zc ?_);refine gF ?_ ?_<;>intro h1<;>simp (disch:=omega) only [Sh.out h1,go_sem,seval,↓reduceIte]
 ·have e:WU n pr f t τ=(0,0,11):=by grind [WU]
  rw [e];exact we
 ·simp only [XK] at h1;refine (Nq n t hn.1).use (Zc ?_);refine cD ?_ ?_<;>intro h2<;>simp (disch:=omega) only [Sh.out h2,go_sem,seval]
  ·have e:WU n pr f t τ=(0,0,11):=by grind [WU]
   rw [e];exact we
  ·simp only [XK] at h2;refine cD ?_ ?_<;>intro h3<;>simp (disch:=omega) only [Sh.out h3,go_sem,seval,↓reduceIte]
   ·have e:WU n pr f t τ=(τ,0,0):=by grind [WU]
    rw [e];exact we
   ·have cf:=rZ n pr f t hn.2.1;have hm:= @Ad n pr f t
    have e0:WU n pr f t τ=if (WT n pr f t).2=true then (Iv (WT n pr f t).1 τ,(WT n pr f t).1.miles,0) else (0,0,12):=by grind [WU]
    rw [e0];generalize WT n pr f t=A at cf hm ⊢;obtain ⟨a,b⟩:=A;simp only at cf hm ⊢;refine Yf cf (Zc ?_);refine cD ?_ ?_<;>intro h4<;>simp (disch:=omega) only [Sh.out h4,go_sem,seval]
    ·have hb:b=false:=by grind
     subst hb;exact we (by simp (disch:=omega) only [go_sem,seval,↓reduceIte])
    ·have hb:b=true:=by grind
     subst hb;refine Xn (Zc ?_);refine Zo (rW a τ (hn.2.2 a (hm rfl)) hτ) (Zc ?_);exact we
def Fh (s:Stp) (a:Int):Int×Int:=if max a s.opn>s.cls then (0,14) else (max a s.opn,0)
theorem Rf (s:Stp) (a:Int):PT 240 [.p (Fq s),.p (.int .i64 a)] [.p (.int .i64 (Fh s a).1),.p (.int .i64 (Fh s a).2)]:=by
 refine Zf [] Tryz.func240 rfl Zbj ?_;simp (disch:=omega) only [Tryz.f240,go_sem,seval];refine cD ?_ ?_<;>intro h<;>simp (disch:=omega) only [Sh.out h,go_sem,seval]
 ·have e:Fh s a=(0,14):=by simp_all [Fh]
  rw [e];exact we
 ·have e:Fh s a=(max a s.opn,0):=by simp_all [Fh]
  rw [e];exact we
theorem kM (l:List Ord) (c:Bool) (p:Int) (hl:l.length<=1048576):PC 188 [.p (.list c (l.map Yg)),.p (.int .i64 p)] (.bool (decide (0<=p)&&decide (p<(l.length:Int)))):=by
 refine Zd Tryz.func188 rfl iQ ?_;simp (disch:=omega) only [Tryz.f188,go_sem,seval];refine gT ?_ ?_<;>intro h<;>simp (disch:=omega) only [Sh.out h,go_sem,seval,↓reduceIte]
 all_goals simp [h]
theorem Se (x:Inst) (v:Vis) (ho:x.orders.length<=1048576) (hv:MT x v=true) (hp:0<=(Xh x v).place):PT 193 [.p (.list x.orders_c (x.orders.map Yg)),.p (Z7 v)] [.p (Fq (Xh x v)),.p (.int .i64 0)]:=by
 refine Zf [] Tryz.func193 rfl ZaN ?_;simp (disch:=omega) only [Tryz.f193,go_sem,seval];have hv':=hv;rw [MT] at hv';have ct:=kM x.orders x.orders_c v.order ho;rw [hv'] at ct;refine ct.use ?_;simp only [ZF,Zs] at hv';obtain ⟨h1,h2⟩:=hv'
 have hi:v.order.toNat<x.orders.length:=Za
 refine Zc ?_;refine cD ?_ ?_<;>intro hd<;>simp (disch:=omega) only [Sh.out hd,go_sem,seval,↓reduceIte]
 ·have e:Xh x v=(nth x.orders v.order.toNat).drp:=by simp [Xh,hd]
  rw [e] at hp ⊢
  have e3: ¬(nth x.orders v.order.toNat).drp.place<0:=Za
  simp (disch:=omega) only [e3,go_sem,seval];exact we
 ·have e:Xh x v=(nth x.orders v.order.toNat).pick:=by simp [Xh,hd]
  rw [e] at hp ⊢
  have e3: ¬(nth x.orders v.order.toNat).pick.place<0:=Za
  simp (disch:=omega) only [e3,go_sem,seval];exact we
theorem rY (l:List Typ) (c:Bool) (ht:l.length<=1048576):PC 274 [.p (.list c (l.map X1))] (.int .i64 (dimsOf l)):=by
 refine Zd Tryz.func274 rfl ZbP ?_;simp (disch:=omega) only [Tryz.f274,go_sem,seval];refine cD ?_ ?_<;>intro h1<;>simp (disch:=omega) only [Sh.out h1,go_sem,seval,↓reduceIte]
 ·grind [dimsOf]
 simp_all [dimsOf]
theorem sA (a b:List Int) (c d:Bool) (ha:a.length<=1048576) (hb:b.length<=1048576):PC 255 [.p (.list c (a.map eI)),.p (.list d (b.map eI))] (.bool (VQ a b)):=by
 refine Zd Tryz.func255 rfl Zbx ?_;simp (disch:=omega) only [Tryz.f255,go_sem,seval];refine cD ?_ ?_<;>intro h1<;>simp (disch:=omega) only [Sh.out h1,go_sem,seval]
 ·grind [VQ]
 ·have h1':a.length=b.length:=Za
  refine Zl [1,12,13] (fun k:Nat=> [(14,.p (.int .i64 k))]) (fun _=> []) (fun k=>k<=a.length/\ ∀j,j<k->nth a j<=nth b j) (fun k=>a.length-k) 0 Zb (Weak.mk ?_) ?_
  ·simp (disch:=omega) only [go_sem,seval]
  ·rintro k ⟨hk,hno⟩;refine Zc ?_;refine cD ?_ ?_<;>intro h2<;>simp (disch:=omega) only [Sh.out h2,go_sem,seval,↓reduceIte]
   ·have hk2:k<a.length:=Za
    refine ZO ?_ ?_<;>intro h3
    ·grind [VQ]
    ·exact ⟨k+1,⟨Za,Zr.2 ⟨hno,Za⟩⟩,Za,wk⟩
   ·have hkl:k=a.length:=Za
    simp_all [VQ]
theorem rV (t:Typ) (s:Int) (h1:t.skills<9223372036854775808) (h2:s<9223372036854775808):PC 251 [.p (X1 t),.p (.int .i64 s)] (.bool (Yh t s)):=by
 refine Zd Tryz.func251 rfl Zbt ?_;simp (disch:=omega) only [Tryz.f251,go_sem,seval];refine gT ?_ ?_<;>intro c1<;>simp (disch:=omega) only [Sh.out c1,go_sem,seval,↓reduceIte]
 ·refine gT ?_ ?_<;>intro c2<;>simp (disch:=omega) only [Sh.out c2,go_sem,seval,↓reduceIte]
  ·obtain ⟨M,hM⟩: ∃M:Nat,t.skills=(M:Int):=⟨t.skills.toNat,Za⟩;obtain ⟨S,rfl⟩: ∃S:Nat,s=(S:Int):=⟨s.toNat,Za⟩;have hb:=DQ (S:=S) (M:=M) Za
   have e:Yh t (S:Int)=(List.range 63).all fun i=> !S.testBit i||M.testBit i:=by
    simp_all [Yh]
   have hd:decide (IntKind.i64.wrap ((BitVec.ofInt 64 (S:Int)&&& ~~~BitVec.ofInt 64 (M:Int)).toNat:Int)=0)=((List.range 63).all fun i=> !S.testBit i||M.testBit i):=by
    grind
   rw [e,hM];exact ZW (fun b=>V.p (PV.bool b)) hd
  grind [Yh]
 grind [Yh]
theorem Zcz (a b:Int) (h: -1073741824<=a/\a<=1073741824/\ -1073741824<=b/\b<=1073741824):PC 287 [.p (.int .i64 a),.p (.int .i64 b)] (.int .i64 (a+b)):=by
 refine Zd Tryz.func287 rfl Zb2 ?_;simp (disch:=omega) only [Tryz.f287,go_sem,seval]
theorem rD (a b:Int) (h: -1073741824<=a/\a<=1073741824/\ -1073741824<=b/\b<=1073741824):PC 288 [.p (.int .i64 a),.p (.int .i64 b)] (.int .i64 (a-b)):=by
 refine Zd Tryz.func288 rfl Zb3 ?_;simp (disch:=omega) only [Tryz.f288,go_sem,seval]
def cH (f:Nat->Int) (n k:Nat):List Int:=(List.range n).map fun j=>if j<k then f j else 0
theorem rE {f:Nat->Int} {n k:Nat} :(cH f n k).length=n:=by simp [cH]
theorem jI {f:Nat->Int} {n:Nat} :cH f n 0=List.replicate n 0:=by
 apply QY (by simp [cH]);grind [cH]
theorem jH {f:Nat->Int} {n:Nat} :cH f n n=(List.range n).map f:=by
 simp_all [cH]
theorem rF {f:Nat->Int} {n k:Nat} (h:k<n):(cH f n k).set k (f k)=cH f n (k+1):=by
 apply QY (by simp [cH]);grind [cH]
theorem Hh (a b:List Int) (c d:Bool) (g:FuncId) (f:Int->Int->Int) (hl:a.length=b.length) (ha:a.length<=1048576)
  (hf: ∀j,j<a.length->ACalls Tryz.prog g [.p (.int .i64 (nth a j)),.p (.int .i64 (nth b j))] [] fun x H'=>x= .p (.int .i64 (f (nth a j) (nth b j)))/\H'= []) :
  PT 286 [.p (.list c (a.map eI)),.p (.list d (b.map eI)),.fn (.func g) [] []] [.p (.list false (((List.range a.length).map fun j=>f (nth a j) (nth b j)).map eI)),.p (.int .i64 0)]:=by
 refine Zf [9] Tryz.func286 rfl Zb1 ?_;simp (disch:=omega) only [Tryz.f286,go_sem,seval];refine cD ?_ ?_<;>intro h0<;>simp (disch:=omega) only [Sh.out h0,go_sem,seval]
 ·omega
 ·have hz:=jI (f:=fun j=>f (nth a j) (nth b j)) (n:=a.length);have hml:=fun k=>rE (f:=fun j=>f (nth a j) (nth b j)) (n:=a.length) (k:=k);refine Z2 [9] [0,1,2,8,19] (fun k:Nat=> [(20,.p (.int .i64 k))]) (fun k=> [.elems 1 ((cH (fun j=>f (nth a j) (nth b j)) a.length k).map eI)]) (fun k=>k<=a.length) (fun k=>a.length-k) 0 Zb (Weak.mk ?_) ?_
  ·simp (disch:=omega) only [hz,go_sem,seval];rw [Al];rfl
  ·intro k hk;refine Zc ?_;refine cD ?_ ?_<;>intro h1<;>simp (disch:=omega) only [Sh.out h1,go_sem,seval,↓reduceIte]
   ·have hk2:k<a.length:=Za
    have hs:=rF (f:=fun j=>f (nth a j) (nth b j)) (n:=a.length) hk2;have hk3:=hml k;refine ZA 12 mixed Ze Ze ?_;refine Zc ?_;refine Zo (hf k hk2) ?_;refine Zc ?_;simp (disch:=first | omega | (simp only [ZB,ZE,ZH,Z0,Xr,XF]<;>omega)) only [go_sem,seval,↓reduceIte];refine ⟨k+1,Za,Za,Weak.mk ?_⟩;simp (disch:=omega) only [<- hs,go_sem,seval];rw [UQ];rfl
   ·have hkl:k=a.length:=Za
    subst hkl;rw [<- jH];have hk3:=hml a.length;refine Zp (Weak.fz (o:=0) (by rfl)) ?_;refine Zg [] _ _ _ _ ?_;simp (disch:=omega) only [Zq,Zm,ZZ,go_sem,seval];rw [if_pos hk3];exact we
theorem kE (a b:List Int) (c d:Bool) (hl:a.length=b.length) (ha:a.length<=1048576) (h: ∀j,j<a.length-> -1073741824<=nth a j/\nth a j<=1073741824/\ -1073741824<=nth b j/\nth b j<=1073741824):PT 275 [.p (.list c (a.map eI)),.p (.list d (b.map eI))] [.p (.list false ((E0 a b).map eI)),.p (.int .i64 0)]:=by
 refine Zf [] Tryz.func275 rfl ZbQ ?_;simp (disch:=omega) only [Tryz.f275,go_sem,seval];refine Yf (Hh a b c d 287 (fun m n=>m+n) hl ha fun j hj=>Zcz _ _ (h j hj)) ?_;simp (disch:=omega) only [E0,go_sem,seval];exact we
theorem Zcw (a b:List Int) (c d:Bool) (hl:a.length=b.length) (ha:a.length<=1048576) (h: ∀j,j<a.length-> -1073741824<=nth a j/\nth a j<=1073741824/\ -1073741824<=nth b j/\nth b j<=1073741824):PT 276 [.p (.list c (a.map eI)),.p (.list d (b.map eI))] [.p (.list false ((tG a b).map eI)),.p (.int .i64 0)]:=by
 refine Zf [] Tryz.func276 rfl ZbR ?_;simp (disch:=omega) only [Tryz.f276,go_sem,seval];refine Yf (Hh a b c d 288 (fun m n=>m-n) hl ha fun j hj=>rD _ _ (h j hj)) ?_;simp (disch:=omega) only [tG,go_sem,seval];exact we
theorem kI (x:Inst) (r:Rte) (ht:0<=r.typ/\r.typ<(x.types.length:Int)) (hv: ∀v∈r.visits,MT x v=true) (hl:r.visits.length<=1048576) (hxl:x.types.length<=1048576) (hol:x.orders.length<=1048576)
  (hs:(ZC x r).skills<9223372036854775808) (ho: ∀o∈x.orders,o.skills<9223372036854775808) :
  PC 230 [.p (Zv x),.p (Wy r)] (.int .i64 (if (r.visits.any fun v=> !Yh (ZC x r) (nth x.orders v.order.toNat).skills)=true then 18 else 0)):=by
 refine Zd Tryz.func230 rfl Za9 ?_;simp (disch:=omega) only [Tryz.f230,go_sem,seval];refine Zl [2,3,8,9] (fun k:Nat=> [(10,.p (.int .i64 k))]) (fun _=> [Zj x,.cells [.p (.int .i64 r.typ),.p (.int .i64 r.start),.p (.list r.rests_c (r.rests.map eB)),.p (.list r.visits_c (r.visits.map Z7))]]) (fun k=>k<=r.visits.length/\ ∀j,j<k->Yh (ZC x r) (nth x.orders (nth r.visits j).order.toNat).skills=true) (fun k=>r.visits.length-k) 0 Zb (Weak.mk ?_) ?_
 ·simp (disch:=omega) only [Zj,go_sem,seval]
 ·rintro k ⟨hk,hno⟩;refine Yd ?_;refine cD ?_ ?_<;>intro h1<;>simp (disch:=omega) only [Sh.out h1,go_sem,seval,↓reduceIte]
  ·have hk2:k<r.visits.length:=Za
   have hin:=hv _ (ZX hk2);simp only [MT,ZF,Zs] at hin;obtain ⟨i1,i2⟩:=hin
   have hi:(nth r.visits k).order.toNat<x.orders.length:=Za
   have ho':=ho _ (ZX hi);refine Xn (Zc ?_);refine Zo (rV (ZC x r) (nth x.orders (nth r.visits k).order.toNat).skills Za Za) (Zc ?_);refine ZO ?_ ?_<;>intro h2
   ·have:(r.visits.any fun v=> !Yh (ZC x r) (nth x.orders v.order.toNat).skills)=true:=by
     grind [ZX]
    grind
   ·exact ⟨k+1,⟨Za,Zr.2 ⟨hno,by grind⟩⟩,Za,wk⟩
  ·have: ¬(r.visits.any fun v=> !Yh (ZC x r) (nth x.orders v.order.toNat).skills)=true:=by
    rw [WD];rintro ⟨v,hv,e⟩;obtain ⟨j,hj,rfl⟩:=ZT.1 hv
    grind [Zh]
   grind
def Sx (x:Inst) (d:Nat) (ms:List Int) (k:Nat):List Int:=(ms.take k).foldl (fun s i=>if (nth x.orders i.toNat).pick.place<0 then E0 s (nth x.orders i.toNat).load else s) (List.replicate d 0)
theorem NT {x:Inst} {d:Nat} {ms:List Int} {k:Nat} (h:k<ms.length):Sx x d ms (k+1)=if (nth x.orders (nth ms k).toNat).pick.place<0 then E0 (Sx x d ms k) (nth x.orders (nth ms k).toNat).load else Sx x d ms k:=by
 grind [Sx,X9,Zh]
theorem Sy {x:Inst} {d:Nat} {ms:List Int} (hms: ∀i∈ms,∀j,j<d->0<=nth (nth x.orders i.toNat).load j/\nth (nth x.orders i.toNat).load j<=1000): ∀k,k<=ms.length->(Sx x d ms k).length=d/\ ∀j,j<d->0<=nth (Sx x d ms k) j/\nth (Sx x d ms k) j<=1000*k
 | 0,_=>by
  grind [Sx,Zh]
 | k+1,h=>by
  obtain ⟨h1,h2⟩:=Sy hms k Za;rw [NT Za]
  split
  ·refine ⟨by simp [E0,h1],fun j hj=> ?_⟩;have a1:=h2 j hj;have a2:=hms _ (ZX (show k<ms.length by omega)) j hj;rw [E0,KM Za];omega
  ·exact ⟨h1,fun j hj=>by have:=h2 j hj;omega⟩
theorem tE (x:Inst) (S:Int) (d:Nat) (hd:d<=3) (hol:x.orders.length<=1048576) (hms: ∀i∈X0 S 63,0<=i/\i<(x.orders.length:Int)) (hml:(X0 S 63).length<=63)
  (hld: ∀o∈x.orders,o.load.length=d/\ ∀n∈o.load,0<=n/\n<=1000) :
  PC 273 [.p (Zv x),.p (.int .i64 S),.p (.int .i64 (d:Int))] (.list false ((Sx x d (X0 S 63) (X0 S 63).length).map eI)):=by
 have hmo: ∀i∈X0 S 63,i.toNat<x.orders.length:=fun i hi=>by grind
 have hrg:=Sy (x:=x) (d:=d) (ms:=X0 S 63) fun i hi j hj=>by
  grind [ZX]
 refine Zd Tryz.func273 rfl ZbO ?_;simp (disch:=omega) only [Tryz.f273,go_sem,seval];refine (Dn S).useF (Zc ?_);refine Zp ((Weak.fz (o:=1) (by rfl)).trans (Weak.fz (o:=2) (by rfl))) ?_;simp (disch:=omega) only [Zq,Zm,Z8,ZZ,Cl,eq_self,go_sem,seval]
 have hz:List.replicate d (PV.int .i64 0)=(Sx x d (X0 S 63) 0).map eI:=by
  show _=(List.replicate d 0).map eI
  rw [Al];rfl
 refine Zl [3,13,14] (fun k:Nat=> [(7,.p (.list false ((Sx x d (X0 S 63) k).map eI))),(15,.p (.int .i64 k))]) (fun _=> [Zj x,.dead,.dead]) (fun k=>k<=(X0 S 63).length) (fun k=>(X0 S 63).length-k) 0 Zb (Weak.mk ?_) ?_
 ·simp (disch:=omega) only [Zj,hz,go_sem,seval]
 ·intro k hk;have hk1:=hrg k hk;have hsn:=fun h=>NT (x:=x) (d:=d) (ms:=X0 S 63) (k:=k) h;refine Yd ?_;refine cD ?_ ?_<;>intro h1<;>simp (disch:=omega) only [Sh.out h1,go_sem,seval,↓reduceIte]
  ·have hk2:k<(X0 S 63).length:=Za
   have hm:=hms _ (ZX hk2);have hi:=hmo _ (ZX hk2);have hlo:=hld _ (ZX hi);have hsn:=hsn hk2;refine Zc ?_;refine ZO ?_ ?_<;>intro h2
   ·rw [if_pos h2] at hsn;refine Yf (kE (Sx x d (X0 S 63) k) (nth x.orders (nth (X0 S 63) k).toNat).load false (nth x.orders (nth (X0 S 63) k).toNat).load_c Za Za fun j hj=> ?_) ?_
    ·have b1:=hk1.2 j Za;have b2:=hlo.2 _ (ZX (show j<(nth x.orders (nth (X0 S 63) k).toNat).load.length by omega));omega
    ·refine Zc ?_;exact ⟨k+1,Za,Za,Weak.mk (by simp (disch:=omega) only [hsn,go_sem,seval])⟩
   ·rw [if_neg h2] at hsn;exact ⟨k+1,Za,Za,Weak.mk (by simp (disch:=omega) only [hsn,go_sem,seval])⟩
  grind
theorem O2 {p:Nat->Bool} {n:Nat} (h: ∀i,n<=i->p i=false): ∀k,n<=k->(List.range k).filter p=(List.range n).filter p:=by
 intro k hk
 induction k with
 | zero=>grind
 | succ k ih =>
  grind [Ys]
theorem ZiL {x:Inst} {l:List Vis} (hi:Inr x l) (hn:x.orders.length<=10):X0 ((Xs l:Nat):Int) 63=((List.range x.orders.length).filter fun (i:Nat)=>hasO l (i:Int)).map fun (i:Nat)=>(i:Int):=by
 have key: ∀i:Nat,i<=62->sHas ((Xs l:Nat):Int) (i:Int)=hasO l (i:Int):=fun i h=>by
  rw [WI _ _ h,Wm,CB,W1]
  constructor
  ·rintro ⟨v,hv,e⟩;exact ⟨v,hv,by have:=hi v hv;omega⟩
  grind
 unfold X0;rw [An (q:=fun (i:Nat)=>hasO l (i:Int)) (fun i hm=>key i (by grind)),O2 (n:=x.orders.length) (fun i h=> ?_) 63 Za]
 cases hh:hasO l (i:Int) with
 | false=>rfl
 | true =>
  obtain ⟨v,hv,e⟩:=W1.1 hh;have:=hi v hv;omega
theorem gV {x:Inst} {d:Nat} : ∀(L:List Nat) (g:Nat->Int),(L.map fun (i:Nat)=>(i:Int)).foldl (fun s (i:Int)=>if (nth x.orders i.toNat).pick.place<0 then E0 s (nth x.orders i.toNat).load else s) ((List.range d).map g)=(List.range d).map fun j=>g j+(L.map fun i=>if (nth x.orders i).pick.place<0 then nth (nth x.orders i).load j else 0).sum
 | [],g=>Zb
 | i::L,g=>by
  rw [Zq,XL,XU]
  by_cases h:(nth x.orders i).pick.place<0
  ·have e:E0 ((List.range d).map g) (nth x.orders i).load=(List.range d).map fun j=>g j+nth (nth x.orders i).load j:=by
    grind [E0,WW,KM]
   rw [if_pos h,e,gV L]
   grind
  ·rw [if_neg h,gV L]
   grind
theorem bL {x:Inst} {l:List Vis} (hi:Inr x l) (hn:x.orders.length<=10):Sx x (dimsOf x.types).toNat (X0 ((Xs l:Nat):Int) 63) (X0 ((Xs l:Nat):Int) 63).length=Y9 x l 0:=by
 rw [Sx,YT,ZiL hi hn];have:=gV (x:=x) (d:=(dimsOf x.types).toNat) ((List.range x.orders.length).filter fun (i:Nat)=>hasO l (i:Int)) fun _=>0
 have e:(List.range (dimsOf x.types).toNat).map (fun _=>(0:Int))=List.replicate (dimsOf x.types).toNat 0:=by
  simp_all [List.map_const']
 rw [e] at this;rw [this,Y9];refine WW fun j _=> ?_;rw [Int.zero_add,J6,DJ]
 congr 1
 refine WW fun i _=> ?_
 grind [jX]
theorem mJ {x:Inst} {l:List Vis} {n j:Nat} {d:Nat} (hj:j<d) (hld: ∀o∈x.orders,o.load.length=d/\ ∀n∈o.load,0<=n/\n<=1000) (hn:x.orders.length<=10):0<=DJ x l n j/\DJ x l n j<=10000:=by
 have key:=Sz (f:=fun i=>if i<x.orders.length then (if (EK x l n i&&hasO l i)=true then nth (nth x.orders i).load j else 0) else 0) (b:=1000) Za (fun q=>by
  grind [ZX]) x.orders.length
 have e:DJ x l n j=((List.range x.orders.length).map fun i=>if i<x.orders.length then (if (EK x l n i&&hasO l i)=true then nth (nth x.orders i).load j else 0) else 0).sum:=by
  simp_all [DJ,WW]
 omega
theorem dD {x:Inst} {l:List Vis} {n j:Nat} (hj:j<(dimsOf x.types).toNat) (hd:LdOk x):0<=nth (Y9 x l n) j/\nth (Y9 x l n) j<=10000:=by
 rw [Y9,KM hj];exact mJ hj (fun o ho=>by obtain ⟨h1,h2⟩:=hd.load o ho;grind) hd.ord
def vB {α:Type} (f:α->Bool) (l:List α):Int:=match l.findIdx? f with | some i=>(i:Int) | none=> -1
theorem gX {α:Type} [Inhabited α] {f:α->Bool} {l:List α} {k:Nat} (hk:k<l.length) (h:f (nth l k)=true) (hno: ∀j,j<k->f (nth l j)=false):vB f l=(k:Int):=by
 have:l.findIdx? f=some k:=by
  grind [Ut,Zh]
 simp [vB,this]
theorem gZ {α:Type} [Inhabited α] {f:α->Bool} {l:List α} (hno: ∀j,j<l.length->f (nth l j)=false):vB f l= -1:=by
 have:l.findIdx? f=none:=by
  rw [List.findIdx?_eq_none_iff];intro x hx;obtain ⟨j,hj,rfl⟩:=ZT.1 hx
  grind [Zh]
 simp [vB,this]
theorem gY {α:Type} {f:α->Bool} {l:List α} :decide (0<=vB f l)=l.any f:=by
 grind [vB]
theorem TM (l:List (List Int)) (c:Bool) (g:FuncId) (caps:List V) (H:List AM.Obj) (f:List Int->Bool) (hl:l.length<=1048576) (hW:N9 H H.length H H) (hc:Xl H.length caps=true)
  (hg: ∀v∈l,ACalls Tryz.prog g (.p (nH v)::caps) H fun x H'=>x= .p (.bool (f v))/\H'=H) :
  ACalls Tryz.prog 277 [.p (.list c (l.map nH)),.fn (.func g) [] caps] H fun x H'=>x= .p (.int .i64 (vB f l))/\H'=H:=by
 refine YO Tryz.func277 rfl ZbS (Zg [] _ _ _ _ ?_);simp (disch:=omega) only [Tryz.f277,go_sem,seval];refine Zl [0,1,7] (fun k:Nat=> [(8,.p (.int .i64 k))]) (fun _=>H) (fun k=>k<=l.length/\ ∀j,j<k->f (nth l j)=false) (fun k=>l.length-k) 0 Zb (Weak.mk ?_) ?_
 ·simp (disch:=omega) only [hW,hc,go_sem,seval];simp
 ·rintro k ⟨hk,hno⟩;refine Zc ?_;refine cD ?_ ?_<;>intro h<;>simp (disch:=omega) only [Sh.out h,go_sem,seval,↓reduceIte]
  ·have hk2:k<l.length:=Za
   have hgk:=hg (nth l k) (Zt hk2);simp (disch:=omega) only [yO,go_sem,seval] at hgk;refine hgk.useH (Zc ?_);refine cD ?_ ?_<;>intro h2<;>simp (disch:=omega) only [Sh.out h2,go_sem,seval,↓reduceIte]
   ·grind [gX]
   ·have h3:f (nth l k)=false:=Za
    refine ⟨k+1,⟨Za,Zr.2 ⟨hno,h3⟩⟩,Za,Weak.mk ?_⟩;simp (disch:=omega) only [hW,hc,go_sem,seval];simp
  grind [gZ]
theorem IQ (l:List (List Int)) (c:Bool) (g:FuncId) (caps:List V) (H:List AM.Obj) (f:List Int->Bool) (hl:l.length<=1048576) (hW:N9 H H.length H H) (hc:Xl H.length caps=true)
  (hg: ∀v∈l,ACalls Tryz.prog g (.p (nH v)::caps) H fun x H'=>x= .p (.bool (f v))/\H'=H) :
  ACalls Tryz.prog 253 [.p (.list c (l.map nH)),.fn (.func g) [] caps] H fun x H'=>x= .p (.bool (l.any f))/\H'=H:=by
 refine YO Tryz.func253 rfl Zbv (Zg [] _ _ _ _ ?_);simp (disch:=omega) only [Tryz.f253,go_sem,seval];refine (TM l c g caps H f hl hW hc hg).useH (Zc ?_);rw [gY]
theorem kK (x:Inst) (r:Rte) (hx:InstOk x) (hl:r.visits.length<=1048576):PC 229 [.p (Zv x),.p (Wy r)] (.int .i64 (Xf x r.visits)):=by
 have hf:=XH hx;obtain ⟨h1,h2⟩:=VY.1 hx.rules
 have ha:x.apart.length<=1048576:=by
  have h3:=(VY.1 h1).1
  grind [GV]
 have hb:x.before.length<=1048576:=by
  have h3:=(VY.1 h2).1
  grind [GV]
 exact PK x r (by have:=hf.len;omega) hl ha hb
theorem rU {x:Inst} {l:List Vis} (hi:Inr x l) (hn:x.orders.length<=10):Q1 l=(((Xs l:Nat):Int),0):=by
 rw [Q1,if_pos];rw [Zz];intro v hv;have:=hi v hv;simp [GW];omega
theorem Zpf {α:Type} (f:Nat->α) (n:Nat):(List.range n).map f++ [f n]=(List.range (n+1)).map f:=by grind [Ys]
theorem kH (x:Inst) (r:Rte) (hx:InstOk x) (hl:r.visits.length<=1048576) (h0:Xf x r.visits=0) :
  PT 252 [.p (Zv x),.p (Wy r)] [.p (.list false ((Qz x r.visits).map nH)),.p (.int .i64 0)]:=by
 have hd:=Qt hx;have hsq:=VK h0;have hol:=hd.ord;have hso:=NK r hl;rw [rU hsq.inr hol] at hso
 have hD:dimsOf x.types=((dimsOf x.types).toNat:Int):=by have:=hd.dim;omega
 have cd:=rY x.types x.types_c hd.typ;rw [hD] at cd;have hst:=bL hsq.inr hol
 have hmem: ∀i∈X0 ((Xs r.visits:Nat):Int) 63,0<=i/\i<(x.orders.length:Int):=fun i hi=>by
  rw [ZiL hsq.inr hol] at hi
  grind
 have cs:=tE x ((Xs r.visits:Nat):Int) (dimsOf x.types).toNat (by have:=hd.dim;omega) Za hmem (Cu _ _) (fun o ho=>by have:=hd.load o ho;grind);rw [hst] at cs;refine Zf [20] Tryz.func252 rfl Zbu ?_;simp (disch:=omega) only [Tryz.f252,go_sem,seval];refine (kK x r hx hl).use (Zc ?_);simp (disch:=omega) only [h0,go_sem,seval];refine Yf hso (Zc ?_);refine Xn (Zc ?_);refine Zo (cd) (Zc ?_);refine Zo (cs) (Zc ?_);refine Z2 [20] [2,37,38] (fun q:Nat×List (List Int)=> [(9,.p (.list false ((Y9 x r.visits q.1).map eI))),(10,.sl 2 0 q.2.length q.2.length),(39,.p (.int .i64 q.1))]) (fun q=> [Zj x,Xt r,.elems 1 (q.2.map nH)]) (fun q=>q.1<=r.visits.length/\q.2=(List.range (q.1+1)).map (Y9 x r.visits)) (fun q=>r.visits.length-q.1) (0,[Y9 x r.visits 0]) Zb (Weak.mk ?_) ?_
 ·simp (disch:=omega) only [Zj,Xt,Zm,Zq,ZE,ZB,go_sem,seval]
 ·rintro ⟨k,o⟩ ⟨hk,ho⟩;simp only at hk ho
  have hol2:o.length=k+1:=by rw [ho];simp
  refine KX ?_;refine cD ?_ ?_<;>intro h1<;>simp (disch:=omega) only [Sh.out h1,go_sem,seval,↓reduceIte]
  ·have hk2:k<r.visits.length:=Za
   obtain ⟨v1,v2⟩:=hsq.inr _ (Zt hk2)
   have hi:(nth r.visits k).order.toNat<x.orders.length:=Za
   obtain ⟨l1,l2⟩:=hd.load _ (ZX hi);have hsu:=SQ hsq hk2;have hal:=E3 (x:=x) (l:=r.visits) (n:=k);have hdm:=hd.dim
   have hrg: ∀j,j<(Y9 x r.visits k).length-> -1073741824<=nth (Y9 x r.visits k) j/\nth (Y9 x r.visits k) j<=1073741824/\ -1073741824<=nth (nth x.orders (nth r.visits k).order.toNat).load j/\nth (nth x.orders (nth r.visits k).order.toNat).load j<=1073741824:=fun j hj=>by
    have b1:=dD (x:=x) (l:=r.visits) (n:=k) (j:=j) Za hd
    grind [ZX]
   refine cD ?_ ?_<;>intro h2<;>simp (disch:=omega) only [Sh.out h2,go_sem,seval,↓reduceIte]
   ·rw [if_pos h2] at hsu;refine Yf (Zcw (Y9 x r.visits k) (nth x.orders (nth r.visits k).order.toNat).load false (nth x.orders (nth r.visits k).order.toNat).load_c Za Za hrg) (Zc ?_);exact ⟨(k+1,o++ [Y9 x r.visits (k+1)]),⟨Za,by grind⟩,Za,Weak.mk (by simp (disch:=omega) only [hsu,ZH,ZB,ZE,XG,Zq,Zm,go_sem,seval])⟩
   ·rw [if_neg (by rw [h2];simp)] at hsu;refine Yf (kE (Y9 x r.visits k) (nth x.orders (nth r.visits k).order.toNat).load false (nth x.orders (nth r.visits k).order.toNat).load_c Za Za hrg) (Zc ?_);exact ⟨(k+1,o++ [Y9 x r.visits (k+1)]),⟨Za,by grind⟩,Za,Weak.mk (by simp (disch:=omega) only [hsu,ZH,ZB,ZE,XG,Zq,Zm,go_sem,seval])⟩
  ·have hkl:k=r.visits.length:=Za
   subst hkl;refine Zp (Weak.fz (o:=2) (by rfl)) (Zg [] _ _ _ _ (UH ?_));rw [Qz,<- ho];exact we
theorem qI (x:Inst) (r:Rte) (a:List Int) (htl:x.types.length<=1048576) (hty:0<=r.typ/\r.typ<(x.types.length:Int)) (ha:a.length<=1048576) (hc:(ZC x r).cap.length<=1048576) :
  ACalls Tryz.prog 254 [.p (nH a),.ptr 0 0,.ptr 1 0] [Zj x,Xt r] fun y H'=>y= .p (.bool (!VQ a (ZC x r).cap))/\H'= [Zj x,Xt r]:=by
 have hti:r.typ.toNat<x.types.length:=Za
 refine Zf [] Tryz.func254 rfl Zbw ?_;simp (disch:=omega) only [Tryz.f254,Zj,Xt,go_sem,seval];refine (sA a (ZC x r).cap false (ZC x r).cap_c ha hc).use (Zc ?_);exact we
theorem kF (x:Inst) (r:Rte) (hx:InstOk x) (hl:r.visits.length<=1048576) (hty:0<=r.typ/\r.typ<(x.types.length:Int)) (h0:Xf x r.visits=0) :
  PC 231 [.p (Zv x),.p (Wy r)] (.int .i64 (if Qb x (ZC x r).cap r.visits=true then 0 else 17)):=by
 have hd:=Qt hx;have htl:=hd.typ
 have hti:r.typ.toNat<x.types.length:=Za
 have hcp:(ZC x r).cap.length<=1048576:=by
  have hcap:=hx.types.2 _ hti;unfold Un at hcap;obtain ⟨⟨⟨⟨⟨⟨⟨⟨_,_⟩,_⟩,_⟩,hcap⟩,_⟩,_⟩,_⟩,_⟩:=hcap;simp only [Vt,ZF,Zs,rng] at hcap;unfold ZC;omega
 have hll:(Qz x r.visits).length=r.visits.length+1:=by simp [Qz]
 have hvl:=(VK h0).len hd.ord
 have hall:(Qz x r.visits).any (fun a=> !VQ a (ZC x r).cap)= !Qb x (ZC x r).cap r.visits:=by
  grind [Qb,Qz]
 have e1: ¬r.typ<0:=Za
 have e2: ¬(x.types.length:Int)<=r.typ:=Za
 refine Zd Tryz.func231 rfl Zba ?_;simp (disch:=omega) only [Tryz.f231,e1,e2,go_sem,seval];refine Yf (kH x r hx hl h0) (Zc ?_);refine (IQ (Qz x r.visits) false 254 [.ptr 0 0,.ptr 1 0] [Zj x,Xt r] (fun a=> !VQ a (ZC x r).cap) Za (by simp (disch:=omega) only [Zj,Xt,go_sem,seval]) (by rfl) (fun a ha=>qI x r a htl hty ?_ hcp)).useH ?_
 ·obtain ⟨j,_,rfl⟩:=XM.1 ha;rw [E3];have:=hd.dim;omega
 ·refine KX ?_;rw [hall];refine cD ?_ ?_<;>intro h1<;>simp (disch:=omega) only [Sh.out h1,go_sem,seval]
  ·grind
  grind
theorem GN (l:List Int) (c:Bool) (hl:l.length<=1048576):ACalls Tryz.prog 94 [.p (.list c (l.map eI))] [] fun y H'=>y= .sl 0 0 l.length l.length/\H'= [.elems 1 (l.map eI)]:=by
 refine Zf [1] Tryz.func94 rfl ZiA ?_;simp (disch:=omega) only [Tryz.f94,go_sem,seval];refine YM (Fe (e:=3) (cl:=c) (xs:=l.map eI) Tryz.underlying34 (by rfl) Zb fun b hb=> ?_);refine Zg [] _ _ _ _ ?_;simp (disch:=omega) only [go_sem,seval];refine cD ?_ ?_<;>intro h<;>simp (disch:=omega) only [Sh.out h,go_sem,seval]
 ·have:l= []:=by simpa using hb h
  subst this;exact ⟨_,_,Weak.nil 0 1 rfl Zb,rfl,rfl⟩
 ·refine Zg [] _ _ _ _ ?_;simp (disch:=omega) only [go_sem,seval];exact we
theorem K6 {P:Program} {e:TypeId} {k:Nat} {cs:List PV} {kk:IntKind} {n:Int} {x:PV} (h0:0<=n) (h1:n<k) (hx:apart P e cs n.toNat=some x) (ht:YZ P e=some 1):L6 P (some (.array k e)) (.p (.agg cs)) (.p (.int kk n))=some (.p x):=by
 simp_all [L6]
def ZgM (s:Sco):PV:= .agg [.int .i64 s.cost,.int .i64 s.moved,.int .i64 s.other,.int .i64 s.work]
@[go_sem] theorem ZkG (s:Sco):ZgM s= .agg [.int .i64 s.cost,.int .i64 s.moved,.int .i64 s.other,.int .i64 s.work]:=Zk rfl rfl
theorem kL (s:Sco):PC 201 [.p (Eb s)] (ZgM s):=by
 refine Zf [] Tryz.func201 rfl ZaU ?_;simp (disch:=omega) only [Tryz.f201,go_sem,seval];exact we
def scoR (B:Int) (s:Sco):Prop:=(-B<=s.cost/\s.cost<=B)/\(-B<=s.moved/\s.moved<=B)/\(-B<=s.other/\s.other<=B)/\(-B<=s.work/\s.work<=B)
def nZ (s:Sco):AM.Obj:= .cells [.p (.int .i64 s.cost),.p (.int .i64 s.moved),.p (.int .i64 s.other),.p (.int .i64 s.work)]
def Yz (s:Sco):Int×Int:=if s.cost<0\/s.moved<0\/s.other<0\/s.work<0 then (0,2) else if 1073741824<s.cost\/16<=s.moved\/16<=s.other\/65536<=s.work then (0,4) else (((s.cost*16+s.moved)*16+s.other)*65536+s.work,0)
theorem HK (s:Sco) (hs:scoR 1152921504606846976 s):PT 168 [.p (Eb s)] [.p (.int .i64 (Yz s).1),.p (.int .i64 (Yz s).2)]:=by
 obtain ⟨a1,a2,a3,a4⟩:=hs;refine Zf [] Tryz.func168 rfl Zau ?_;simp (disch:=omega) only [Tryz.f168,go_sem,seval];refine (kL s).use (Zc ?_);refine Zl [1,9] (fun k:Nat=> [(10,.p (.int .i64 k))]) (fun _=> [nZ s,nZ s]) (fun k=>k<=4/\(0<k->0<=s.cost)/\(1<k->0<=s.moved)/\(2<k->0<=s.other)/\(3<k->0<=s.work)) (fun k=>4-k) 0 ⟨Za,Za,Za,Za,Za⟩ (Weak.mk ?_) ?_
 ·simp (disch:=omega) only [nZ,go_sem,seval]
 ·rintro k ⟨hk,k1,k2,k3,k4⟩;simp (disch:=omega) only [nZ,go_sem,seval];refine cD ?_ ?_<;>intro h1<;>simp (disch:=omega) only [Sh.out h1,go_sem,seval,↓reduceIte]
  ·have:k=0\/k=1\/k=2\/k=3:=Za
   rcases this with rfl | rfl | rfl | rfl
   ·rw [K6 (x:= .int .i64 s.cost) Za Za (by rfl) Ze];refine Zc ?_;refine ZO ?_ ?_<;>intro h2
    ·have e:Yz s=(0,2):=by simp_all [Yz]
     rw [e];exact we
    ·exact ⟨1,⟨Za,fun _=>Za,Za,Za,Za⟩,Za,wk⟩
   ·rw [K6 (x:= .int .i64 s.moved) Za Za (by rfl) Ze];refine Zc ?_;refine ZO ?_ ?_<;>intro h2
    ·have e:Yz s=(0,2):=by simp_all [Yz]
     rw [e];exact we
    ·exact ⟨2,⟨Za,fun _=>k1 Za,fun _=>Za,Za,Za⟩,Za,wk⟩
   ·rw [K6 (x:= .int .i64 s.other) Za Za (by rfl) Ze];refine Zc ?_;refine ZO ?_ ?_<;>intro h2
    ·have e:Yz s=(0,2):=by simp_all [Yz]
     rw [e];exact we
    ·exact ⟨3,⟨Za,fun _=>k1 Za,fun _=>k2 Za,fun _=>Za,Za⟩,Za,wk⟩
   ·rw [K6 (x:= .int .i64 s.work) Za Za (by rfl) Ze];refine Zc ?_;refine ZO ?_ ?_<;>intro h2
    ·have e:Yz s=(0,2):=by simp_all [Yz]
     rw [e];exact we
    ·exact ⟨4,⟨Za,fun _=>k1 Za,fun _=>k2 Za,fun _=>k3 Za,fun _=>Za⟩,Za,wk⟩
  ·have hk4:k=4:=Za
   subst hk4;have g1:=k1 Za;have g2:=k2 Za;have g3:=k3 Za;have g4:=k4 Za
   have n1: ¬(s.cost<0\/s.moved<0\/s.other<0\/s.work<0):=Za
   have bad:(1073741824<s.cost\/16<=s.moved\/16<=s.other\/65536<=s.work)->Yz s=(0,4):=fun h=>by simp_all [Yz]
   refine gF ?_ ?_<;>intro h2<;>simp (disch:=omega) only [Sh.out h2,go_sem,seval,↓reduceIte]
   ·rw [bad Za];exact we
   ·refine gF ?_ ?_<;>intro h3<;>simp (disch:=omega) only [Sh.out h3,go_sem,seval,↓reduceIte]
    ·rw [bad Za];exact we
    ·refine gF ?_ ?_<;>intro h4<;>simp (disch:=omega) only [Sh.out h4,go_sem,seval,↓reduceIte]
     ·rw [bad Za];exact we
     ·refine cD ?_ ?_<;>intro h5<;>simp (disch:=omega) only [Sh.out h5,go_sem,seval,↓reduceIte]
      ·rw [bad Za];exact we
      ·have e:Yz s=(((s.cost*16+s.moved)*16+s.other)*65536+s.work,0):=by simp_all [Yz,if_neg]
       rw [e];exact we
def unsF (x:Inst) (i:Int):Sco×Int :=
 if i<0\/(x.orders.length:Int)<=i then (zSco,2)
 else if (nth x.orders i.toNat).off=true then (zSco,9)
 else if (nth x.orders i.toNat).penalty= -1 then (zSco,23)
 else (⟨(nth x.orders i.toNat).penalty,if (nth x.orders i.toNat).now= -1 then 0 else 1,0,0⟩,0)
theorem Nr (x:Inst) (i:Int) (ho:x.orders.length<=1048576):PT 167 [.p (Zv x),.p (.int .i64 i)] [.p (Eb (unsF x i).1),.p (.int .i64 (unsF x i).2)]:=by
 refine Zf [] Tryz.func167 rfl Zat ?_;simp (disch:=omega) only [Tryz.f167,go_sem,seval];refine gF ?_ ?_<;>intro h1<;>simp (disch:=omega) only [Sh.out h1,go_sem,seval,↓reduceIte]
 ·have e:unsF x i=(zSco,2):=by simp_all [unsF]
  rw [e];exact we (by simp (disch:=omega) only [zSco,go_sem,seval])
 ·refine cD ?_ ?_<;>intro h2<;>simp (disch:=omega) only [Sh.out h2,go_sem,seval,↓reduceIte]
  ·have e:unsF x i=(zSco,2):=by simp_all [unsF]
   rw [e];exact we (by simp (disch:=omega) only [zSco,go_sem,seval])
  ·have hi:i.toNat<x.orders.length:=Za
   have n1: ¬(i<0\/(x.orders.length:Int)<=i):=Za
   refine cD ?_ ?_<;>intro h3<;>simp (disch:=omega) only [Sh.out h3,go_sem,seval,↓reduceIte]
   ·have e:unsF x i=(zSco,9):=by simp_all [unsF]
    rw [e];exact we (by simp (disch:=omega) only [zSco,go_sem,seval])
   ·have h3': ¬(nth x.orders i.toNat).off=true:=by rw [h3];simp
    refine cD ?_ ?_<;>intro h4<;>simp (disch:=omega) only [Sh.out h4,go_sem,seval,↓reduceIte]
    ·have e:unsF x i=(zSco,23):=by simp_all [unsF]
     rw [e];exact we (by simp (disch:=omega) only [zSco,go_sem,seval])
    ·refine cD ?_ ?_<;>intro h5<;>simp (disch:=omega) only [Sh.out h5,go_sem,seval,↓reduceIte]
     ·have e:unsF x i=(⟨(nth x.orders i.toNat).penalty,1,0,0⟩,0):=by simp_all [unsF]
      rw [e];exact we
     ·have h5':(nth x.orders i.toNat).now= -1:=Za
      have e:unsF x i=(⟨(nth x.orders i.toNat).penalty,0,0,0⟩,0):=by simp_all [unsF]
      rw [e];exact we
theorem LR (x:Inst) (i:Int) (ho:x.orders.length<=1048576):PT 56 [.p (Zv x),.p (.int .i64 i)] [.p (Eb (unsF x i).1),.p (.int .i64 (unsF x i).2)]:=by
 refine Zf [] Tryz.func56 rfl Zh6 ?_;simp (disch:=omega) only [Tryz.f56,go_sem,seval];refine gF ?_ ?_<;>intro h1<;>simp (disch:=omega) only [Sh.out h1,go_sem,seval,↓reduceIte]
 ·have e:unsF x i=(zSco,2):=by simp_all [unsF]
  rw [e];exact we (by simp (disch:=omega) only [zSco,go_sem,seval])
 ·refine cD ?_ ?_<;>intro h2<;>simp (disch:=omega) only [Sh.out h2,go_sem,seval,↓reduceIte]
  ·have e:unsF x i=(zSco,2):=by simp_all [unsF]
   rw [e];exact we (by simp (disch:=omega) only [zSco,go_sem,seval])
  ·have hi:i.toNat<x.orders.length:=Za
   have n1: ¬(i<0\/(x.orders.length:Int)<=i):=Za
   refine cD ?_ ?_<;>intro h3<;>simp (disch:=omega) only [Sh.out h3,go_sem,seval,↓reduceIte]
   ·have e:unsF x i=(zSco,9):=by simp_all [unsF]
    rw [e];exact we (by simp (disch:=omega) only [zSco,go_sem,seval])
   ·have h3': ¬(nth x.orders i.toNat).off=true:=by rw [h3];simp
    refine cD ?_ ?_<;>intro h4<;>simp (disch:=omega) only [Sh.out h4,go_sem,seval,↓reduceIte]
    ·have e:unsF x i=(zSco,23):=by simp_all [unsF]
     rw [e];exact we (by simp (disch:=omega) only [zSco,go_sem,seval])
    ·refine cD ?_ ?_<;>intro h5<;>simp (disch:=omega) only [Sh.out h5,go_sem,seval,↓reduceIte]
     ·have e:unsF x i=(⟨(nth x.orders i.toNat).penalty,1,0,0⟩,0):=by simp_all [unsF]
      rw [e];exact we
     ·have h5':(nth x.orders i.toNat).now= -1:=Za
      have e:unsF x i=(⟨(nth x.orders i.toNat).penalty,0,0,0⟩,0):=by simp_all [unsF]
      rw [e];exact we
def V3 (s:Sco):Bool:=decide (0<=s.cost)&&decide (s.cost<=1073741824)&&decide (0<=s.moved)&&decide (s.moved<=15)&&decide (0<=s.other)&&decide (s.other<=15)&&decide (0<=s.work)&&decide (s.work<=65535)
theorem aT (s:Sco):PC 57 [.p (Eb s)] (.bool (V3 s)):=by
 refine Zd Tryz.func57 rfl Zh7 ?_;simp (disch:=omega) only [Tryz.f57,go_sem,seval];refine gT ?_ ?_<;>intro h1<;>simp (disch:=omega) only [Sh.out h1,go_sem,seval,↓reduceIte]
 ·refine gT ?_ ?_<;>intro h2<;>simp (disch:=omega) only [Sh.out h2,go_sem,seval,↓reduceIte]
  ·refine gT ?_ ?_<;>intro h3<;>simp (disch:=omega) only [Sh.out h3,go_sem,seval,↓reduceIte]
   ·refine gT ?_ ?_<;>intro h4<;>simp (disch:=omega) only [Sh.out h4,go_sem,seval,↓reduceIte]
    ·refine gT ?_ ?_<;>intro h5<;>simp (disch:=omega) only [Sh.out h5,go_sem,seval,↓reduceIte]
     ·refine gT ?_ ?_<;>intro h6<;>simp (disch:=omega) only [Sh.out h6,go_sem,seval,↓reduceIte]
      ·refine gT ?_ ?_<;>intro h7<;>simp (disch:=omega) only [Sh.out h7,go_sem,seval,↓reduceIte]
       ·grind [V3]
       grind [V3]
      grind [V3]
     grind [V3]
    grind [V3]
   grind [V3]
  grind [V3]
 ·simp [V3,h1]
theorem GB (s:Sco) (hs:scoR 1152921504606846976 s):PT 33 [.p (Eb s)] [.p (.int .i64 (Yz s).1),.p (.int .i64 (Yz s).2)]:=by
 obtain ⟨a1,a2,a3,a4⟩:=hs
 have bad:(s.cost<0\/s.moved<0\/s.other<0\/s.work<0)->Yz s=(0,2):=fun h=>by rw [Yz,if_pos h]
 refine Zf [] Tryz.func33 rfl ZhP ?_;simp (disch:=omega) only [Tryz.f33,go_sem,seval];refine gF ?_ ?_<;>intro h1<;>simp (disch:=omega) only [Sh.out h1,go_sem,seval,↓reduceIte]
 ·rw [bad Za];exact we
 ·refine gF ?_ ?_<;>intro h2<;>simp (disch:=omega) only [Sh.out h2,go_sem,seval,↓reduceIte]
  ·rw [bad Za];exact we
  ·refine gF ?_ ?_<;>intro h3<;>simp (disch:=omega) only [Sh.out h3,go_sem,seval,↓reduceIte]
   ·rw [bad Za];exact we
   ·refine cD ?_ ?_<;>intro h4<;>simp (disch:=omega) only [Sh.out h4,go_sem,seval,↓reduceIte]
    ·rw [bad Za];exact we
    ·have n1: ¬(s.cost<0\/s.moved<0\/s.other<0\/s.work<0):=Za
     refine (aT s).use (Zc ?_);refine cD ?_ ?_<;>intro h5<;>simp (disch:=omega) only [Sh.out h5,go_sem,seval,↓reduceIte]
     ·have e:Yz s=(0,4):=by
       have h6: ¬V3 s=true:=by grind
       rw [Yz,if_neg n1,if_pos];refine JT fun h7=>h6 ?_;simp [V3];omega
      rw [e];exact we
     ·have h6:V3 s=true:=by grind
      simp [V3] at h6
      have e:Yz s=(((s.cost*16+s.moved)*16+s.other)*65536+s.work,0):=by rw [Yz,if_neg n1,if_neg Za]
      rw [e];refine Zc ?_;exact we
def aH (s:Sco):Prop:=0<=s.cost/\0<=s.moved/\0<=s.other/\0<=s.work
theorem N6 {s:Sco} (hs:aH s):(Yz s).2=0↔s.cost<=1073741824/\s.moved<16/\s.other<16/\s.work<65536:=by
 obtain ⟨a1,a2,a3,a4⟩:=hs;unfold Yz
 grind
theorem mS {s:Sco} (hs:aH s) (h:(Yz s).2=0):(Yz s).1=((s.cost*16+s.moved)*16+s.other)*65536+s.work:=by
 have h:=(N6 hs).1 h;obtain ⟨a1,a2,a3,a4⟩:=hs
 simp_all [Yz,if_neg]
theorem N0 {x:Inst} (hx:InstOk x) (i:Int):scoR 1073741824 (unsF x i).1:=by
 unfold unsF
 split
 ·simp [scoR,zSco]
 ·split
  ·simp [scoR,zSco]
  ·split
   ·simp [scoR,zSco]
   ·have ha:=(hx.orders.2 i.toNat Za).arg;simp only [argOk,rng,ZF,Zs] at ha
    grind [scoR]
theorem AK {a:Sco} {B C:Int} (h:B<=C) (ha:scoR B a):scoR C a:=by
 grind [scoR]
def Mz (x:Inst) (t:Typ) (r:Rte) (c:Bool) (sp:List Stp):PV:= .agg [.list x.net.places_c (x.net.places.map eS),.list x.net.arcs_c (x.net.arcs.map VO),.list x.types_c (x.types.map X1),.list x.orders_c (x.orders.map Yg),.list x.apart_c (x.apart.map eP),.list x.before_c (x.before.map eP),.str t.name,.int .i64 t.count,.int .i64 t.src,.int .i64 t.dst,.list t.cap_c (t.cap.map eI),.int .i64 t.skills,.int .i64 t.prof,.int .i64 t.opn,.int .i64 t.cls,.int .i64 t.drive,.int .i64 t.rest,.int .i64 t.fixed,.int .i64 t.perMile,.int .i64 t.perTick,.int .i64 r.typ,.int .i64 r.start,.list r.rests_c (r.rests.map eB),.list r.visits_c (r.visits.map Z7),.list c (sp.map Fq)]
@[go_sem] theorem ZkZ (x:Inst) (t:Typ) (r:Rte) (c:Bool) (sp:List Stp):Mz x t r c sp= .agg [.list x.net.places_c (x.net.places.map eS),.list x.net.arcs_c (x.net.arcs.map VO),.list x.types_c (x.types.map X1),.list x.orders_c (x.orders.map Yg),.list x.apart_c (x.apart.map eP),.list x.before_c (x.before.map eP),.str t.name,.int .i64 t.count,.int .i64 t.src,.int .i64 t.dst,.list t.cap_c (t.cap.map eI),.int .i64 t.skills,.int .i64 t.prof,.int .i64 t.opn,.int .i64 t.cls,.int .i64 t.drive,.int .i64 t.rest,.int .i64 t.fixed,.int .i64 t.perMile,.int .i64 t.perTick,.int .i64 r.typ,.int .i64 r.start,.list r.rests_c (r.rests.map eB),.list r.visits_c (r.visits.map Z7),.list c (sp.map Fq)]:=Zk rfl rfl
def ZcY (x:Inst) (t:Typ) (r:Rte):List V:= [.p (.list x.net.places_c (x.net.places.map eS)),.p (.list x.net.arcs_c (x.net.arcs.map VO)),.p (.list x.types_c (x.types.map X1)),.p (.list x.orders_c (x.orders.map Yg)),.p (.list x.apart_c (x.apart.map eP)),.p (.list x.before_c (x.before.map eP)),.p (.str t.name),.p (.int .i64 t.count),.p (.int .i64 t.src),.p (.int .i64 t.dst),.p (.list t.cap_c (t.cap.map eI)),.p (.int .i64 t.skills),.p (.int .i64 t.prof),.p (.int .i64 t.opn),.p (.int .i64 t.cls),.p (.int .i64 t.drive),.p (.int .i64 t.rest),.p (.int .i64 t.fixed),.p (.int .i64 t.perMile),.p (.int .i64 t.perTick),.p (.int .i64 r.typ),.p (.int .i64 r.start),.p (.list r.rests_c (r.rests.map eB)),.p (.list r.visits_c (r.visits.map Z7))]
def Y7 (x:Inst) (t:Typ) (r:Rte) (c:Bool) (sp:List Stp):AM.Obj:= .cells [.p (.list x.net.places_c (x.net.places.map eS)),.p (.list x.net.arcs_c (x.net.arcs.map VO)),.p (.list x.types_c (x.types.map X1)),.p (.list x.orders_c (x.orders.map Yg)),.p (.list x.apart_c (x.apart.map eP)),.p (.list x.before_c (x.before.map eP)),.p (.str t.name),.p (.int .i64 t.count),.p (.int .i64 t.src),.p (.int .i64 t.dst),.p (.list t.cap_c (t.cap.map eI)),.p (.int .i64 t.skills),.p (.int .i64 t.prof),.p (.int .i64 t.opn),.p (.int .i64 t.cls),.p (.int .i64 t.drive),.p (.int .i64 t.rest),.p (.int .i64 t.fixed),.p (.int .i64 t.perMile),.p (.int .i64 t.perTick),.p (.int .i64 r.typ),.p (.int .i64 r.start),.p (.list r.rests_c (r.rests.map eB)),.p (.list r.visits_c (r.visits.map Z7)),.p (.list c (sp.map Fq))]
def Zda : AM.Obj:= .cells [.p (.list true []),.p (.list true []),.p (.list true []),.p (.list true []),.p (.list true []),.p (.list true []),.p (.str []),.p (.int .i64 0),.p (.int .i64 0),.p (.int .i64 0),.p (.list true []),.p (.int .i64 0),.p (.int .i64 0),.p (.int .i64 0),.p (.int .i64 0),.p (.int .i64 0),.p (.int .i64 0),.p (.int .i64 0),.p (.int .i64 0),.p (.int .i64 0),.p (.int .i64 0),.p (.int .i64 0),.p (.list true []),.p (.list true []),.p (.list true [])]
def JE (L:Lab):PV:= .agg [.int .i64 L.ready,.int .i64 L.since,.bool L.she.rest,.int .i64 L.she.dep,.list L.she.times_c (L.she.times.map eTim),.int .i64 L.she.fin,.int .i64 L.she.miles]
@[go_sem] theorem ZkP (L:Lab):JE L= .agg [.int .i64 L.ready,.int .i64 L.since,.bool L.she.rest,.int .i64 L.she.dep,.list L.she.times_c (L.she.times.map eTim),.int .i64 L.she.fin,.int .i64 L.she.miles]:=Zk rfl rfl
@[go_sem] theorem ZdE (l:List Lab):BM 7 (l.map JE)=true:=BN (f:=JE) (S:=7) (fun _=>rfl) l
def WV (L:Lab):AM.Obj:= .cells [.p (.int .i64 L.ready),.p (.int .i64 L.since),.p (.bool L.she.rest),.p (.int .i64 L.she.dep),.p (.list L.she.times_c (L.she.times.map eTim)),.p (.int .i64 L.she.fin),.p (.int .i64 L.she.miles)]
theorem fE (l:List Tim) (c:Bool) (hl:l.length<=1048576):ACalls Tryz.prog 289 [.p (.list c (l.map eTim))] [] fun x H'=>x= .sl 0 0 l.length l.length/\H'= [.elems 4 (l.map eTim)]:=by
 suffices hh:ACalls Tryz.prog 289 [.p (.list c (l.map eTim))] [] fun x H'=> ∃m:List Tim,m=l/\x= .sl 0 0 m.length m.length/\H'= [.elems 4 (m.map eTim)] by
  grind
 refine Zf [1] Tryz.func289 rfl Zb4 ?_;simp (disch:=omega) only [Tryz.f289,go_sem,seval];refine YM (YM (oV 1 rfl rfl ?_));refine ⟨_,rP (e:=299) rfl Tryz.underlying116 rfl (fun _=>rfl),?_⟩;rintro _ ⟨b,rfl,hb⟩;refine Zc ?_;refine Zg [] _ _ _ _ ?_
 cases b with
 | true =>
  have hn:l= []:=by simp_all
  subst hn;refine Zc ?_;exact ⟨_,_,Weak.ofNil 0 4 rfl Zb (wk),[],rfl,rfl,rfl⟩
 | false =>
  refine Zc ?_;refine Zg [] _ _ _ _ (Zc ?_);exact ⟨.sl 0 0 l.length l.length,[.elems 4 (l.map eTim)],wk,l,rfl,rfl,rfl⟩
theorem Ha (x:Inst) (t:Typ) (r:Rte) (c:Bool) (sp:List Stp):PC 257 [.p (Mz x t r c sp)] (JE (labF t r.start)):=by
 refine Zf [] Tryz.func257 rfl Zby ?_;simp (disch:=omega) only [Tryz.f257,go_sem,seval];exact we (by simp (disch:=omega) only [labF,zShe,Zm,go_sem,seval])
theorem kT (x:Inst) (t:Typ) (r:Rte) (c:Bool) (sp:List Stp) (k:Nat) (hk:k<=sp.length) (hl:sp.length<=1048576):PC 290 [.p (Mz x t r c sp),.p (.int .i64 (k:Nat))] (.int .i64 (V2 t sp k)):=by
 refine Zd Tryz.func290 rfl Zb5 ?_;simp (disch:=omega) only [Tryz.f290,go_sem,seval];refine cD ?_ ?_<;>intro h<;>simp (disch:=omega) only [Sh.out h,go_sem,seval,↓reduceIte]
 ·simp_all [V2]
 simp_all [V2]
theorem Zcy (x:Inst) (r:Rte) (hx:InstOk x) (hty:0<=r.typ/\r.typ<(x.types.length:Int)) (h0:Xf x r.visits=0) (hs:0<=r.start/\r.start<=4096) :
  PT 256 [.p (Zv x),.p (Wy r)] [.p (Mz x (ZC x r) r false (ZM x r.visits)),.p (.bool true)]:=by
 have hd:=Qt hx;have hsq:=VK h0;have hol:=hd.ord;have htl:=hd.typ;have hvl:=hsq.len hol
 have e1: ¬r.typ<0:=Za
 have e2: ¬(x.types.length:Int)<=r.typ:=Za
 have e3: ¬r.start<0:=Za
 have e4: ¬ 4096<r.start:=Za
 have e5: ¬ 20<(r.visits.length:Int):=Za
 refine Zf [12] Tryz.func256 rfl iS ?_;simp (disch:=omega) only [Tryz.f256,e1,e2,e3,e4,e5,go_sem,seval];refine XY [9] 10 mixed Ze Ze Ze Zb (Zc ?_);refine Xq 9 _ _ Ze (by refine Zc ?_;exact ⟨rfl,rfl⟩) (Ws ?_);refine Zc ?_
 refine Z2 [12] [2,4,6,49,50] (fun q:Nat×List Stp=> [(51,.p (.int .i64 q.1))])
  (fun q=> [Zj x,Xt r,Zda,.cells (ZcY x (ZC x r) r++ [.sl 4 0 q.2.length q.2.length]),.elems 4 (q.2.map Fq)])
  (fun q=>q.1<=r.visits.length/\q.2=(ZM x r.visits).take q.1) (fun q=>r.visits.length-q.1) (0,[]) Zb ((Weak.nilC (o:=3) (j:=24) 4 rfl rfl Zb).trans (Weak.mk ?_)) ?_
 ·simp (disch:=omega) only [Zj,Xt,Zda,ZcY,ZC,Zm,ZE,Z8,ZZ,ZK,Zy,go_sem,seval]
 ·rintro ⟨k,o⟩ ⟨hk,ho⟩;simp only at hk ho
  have hol2:o.length=k:=by grind [Ya]
  simp (disch:=omega) only [Zj,Xt,Zda,ZcY,go_sem,seval];refine cD ?_ ?_<;>intro h1<;>simp (disch:=omega) only [Sh.out h1,go_sem,seval,↓reduceIte]
  ·have hk2:k<r.visits.length:=Za
   have hvis:=hsq.vis (Zt hk2);simp only [K3,ZF,Zs] at hvis
   have hsn:o++ [Xh x (nth r.visits k)]=(ZM x r.visits).take (k+1):=by
    rw [ho,X9 (by grind [Ya]),<- Zh,Gt hk2]
   have hnp: ¬(Xh x (nth r.visits k)).place<0:=Za
   refine Yf (Se x (nth r.visits k) Za hvis.1 hvis.2) ?_;simp (disch:=omega) only [hnp,go_sem,seval];exact ⟨(k+1,o++ [Xh x (nth r.visits k)]),⟨Za,hsn⟩,Za,Weak.mk (by simp (disch:=omega) only [ZH,ZB,ZE,XG,Zq,Zm,go_sem,seval])⟩
  ·have hkl:k=r.visits.length:=Za
   subst hkl
   have hso:o=ZM x r.visits:=by grind [Ya]
   subst hso;refine Zp (Weak.fz (o:=4) (by rfl)) (Zg [] _ _ _ _ (UH ?_));exact we
def NN (rd sn:Int) (m:She):AM.Obj:= .cells [.p (.int .i64 rd),.p (.int .i64 sn),.p (.bool m.rest),.p (.int .i64 m.dep),.sl 4 0 m.times.length m.times.length,.p (.int .i64 m.fin),.p (.int .i64 m.miles)]
theorem Fw {P:Program} {H:List AM.Obj} {f ars} {a b d:PV} {B:V->Prop} {t} (h:ACalls P f ars [] fun x H'=>x= .tup [.p a,.p b,.p d]/\H'= []) (k:B (.tup [.p a,.p b,.p d])) (ha:Xl 0 ars=true:=by rfl) :
  TA (fun y=>ACalls P f ars H (Zu (Zu (fun x H'=>x=y/\H'=H) ⟨⟩) ⟨⟩)) (Zu B t) :=
 ⟨.tup [.p a,.p b,.p d],(h.behind ha H).mono fun x H' hq=>by
  obtain ⟨y,H1,⟨rfl,rfl⟩,rfl,rfl⟩:=hq
  simp [shV,shVs,Zu],k⟩
theorem Zcm (x:Inst) (t:Typ) (r:Rte) (c:Bool) (sp:List Stp) (hok:TrpOk x t sp) (k:Nat) (hk:k<=sp.length) (hs1:0<sp.length) (L:Lab) (hL:LabR k L) (hlen:L.she.times.length=k) (hclip:0<k->L.she.times_c=false) (b:Bool) :
  PT 278 [.p (Mz x t r c sp),.p (JE L),.p (.int .i64 (k:Nat)),.p (.bool b)] [.p (JE (nxtF x t sp k L b).1),.p (.int .i64 (nxtF x t sp k L b).2)]:=by
 have hd:=Ks hok hL b;have hsn:=Gq hL b;have hg:=IX hok hL b;have hmi:=hL.mil;have hrd:=hL.rdy;have hsnL:=hL.snc;have hsl:=hok.len;have hrst:=hok.rst;unfold nxtF;have hmm:= @KG k (ZJ t L b) b L.she;have hmf:= @HF k (ZJ t L b) b L.she;have hml:= @AA k (ZJ t L b) b L.she;refine Zf [2,7,14,31] Tryz.func278 rfl ZbT ?_;simp (disch:=omega) only [Tryz.f278,go_sem,seval];refine Xn (Zc ?_);refine ZI [2,3,4,5,8] (fun _:Unit=> [(10,.p (.int .i64 (ZJ t L b))),(11,.p (.int .i64 (WQ L b)))]) (fun _=> [Y7 x t r c sp,WV L,WV WS]) (fun _=>True) ?_ ?_
 ·refine Zc ?_;refine ZO ?_ ?_<;>intro h
  ·subst h;exact ⟨(),Weak.mk (by simp (disch:=omega) only [Y7,WV,WS,zShe,ZJ,WQ,Zm,go_sem,seval,↓reduceIte])⟩
  ·subst h;exact ⟨(),Weak.mk (by simp (disch:=omega) only [Y7,WV,WS,zShe,ZJ,WQ,Zm,go_sem,seval,↓reduceIte])⟩
 ·intro _ _;refine Zg [7,14,31] _ _ _ _ ?_;simp (disch:=omega) only [Y7,WV,WS,zShe,Zm,go_sem,seval];refine (fE L.she.times L.she.times_c Za).useF (Zc ?_)
  generalize hM:XW k (ZJ t L b) b L.she=M at *
  refine ZI [2,4,8,10,11,12] (fun _:Unit=> []) (fun _=> [Y7 x t r c sp,WV L,WV WS,NN 0 0 M,.elems 4 (M.times.map eTim)]) (fun _=>True) ?_ ?_
  ·refine Zc ?_;refine ZO ?_ ?_<;>intro h
   ·have hk0:k=0:=Za
    subst hk0
    have e:M= { L.she with rest:=b,dep:=ZJ t L b } :=by rw [<- hM,XW,if_pos rfl]
    rw [e];exact ⟨(),Weak.mk (by simp (disch:=omega) only [Y7,WV,WS,zShe,NN,Zm,go_sem,seval])⟩
   ·have e1:((k:Int)-1).toNat=k-1:=Za
    have hk1:k-1<L.she.times.length:=Za
    have RF:(L.she.times.map eTim).set (k-1) (PV.agg [.int .i64 (nth L.she.times (k-1)).arr,.int .i64 (nth L.she.times (k-1)).beg,.int .i64 (nth L.she.times (k-1)).dep,.bool b])=(L.she.times.set (k-1) { nth L.she.times (k-1) with rest:=b }).map eTim:=by
     rw [UQ];rfl
    have hn1:nth (L.she.times.set (k-1) { nth L.she.times (k-1) with rest:=b }) (k-1)= { nth L.she.times (k-1) with rest:=b } :=by
     grind [Zh]
    have hl1:(L.she.times.set (k-1) { nth L.she.times (k-1) with rest:=b }).length=L.she.times.length:=Zb
    have hMt:M.times=(L.she.times.set (k-1) { nth L.she.times (k-1) with rest:=b }).set (k-1) { nth (L.she.times.set (k-1) { nth L.she.times (k-1) with rest:=b }) (k-1) with dep:=ZJ t L b } :=by
     rw [hn1,List.set_set,<- hM,XW,if_neg Za];rfl
    have hM2:M.rest=L.she.rest/\M.dep=L.she.dep:=by rw [<- hM,XW,if_neg Za];simp
    simp (disch:=first | omega | (simp only [ZB,ZE,ZH,Z0,Xr,XF]<;>omega)) only [e1,go_sem,seval,↓reduceIte];rw [RF]
    generalize L.she.times.set (k-1) { nth L.she.times (k-1) with rest:=b } =l1 at *
    simp (disch:=first | omega | (simp only [ZB,ZE,ZH,Z0,Xr,XF]<;>omega)) only [e1,hl1,eq_self,Vz,go_sem,seval];refine ⟨(),Weak.mk ?_⟩;simp (disch:=omega) only [Y7,WV,WS,zShe,NN,Zm,hM2.1,hM2.2,hmm,hmf,hml,go_sem,seval];rw [hMt,UQ]
    rfl
  ·intro _ _;refine Zg [14,31] _ _ _ _ ?_;simp (disch:=omega) only [Y7,WV,WS,zShe,NN,Zm,go_sem,seval];refine ZI [2,4,8,10,11,12,13] (fun _:Unit=> [(14,.p (.int .i64 (Of t sp k)))]) (fun _=> [Y7 x t r c sp,WV L,WV WS,NN 0 0 M,.elems 4 (M.times.map eTim)]) (fun _=>True) ?_ ?_
   ·refine Zc ?_;refine ZO ?_ ?_<;>intro h
    ·have e:Of t sp k=(nth sp k).place:=by rw [Of,if_neg Za]
     exact ⟨(),Weak.mk (by simp (disch:=omega) only [Y7,WV,WS,zShe,NN,Zm,e,go_sem,seval])⟩
    ·have e:Of t sp k=t.dst:=by rw [Of,if_pos Za]
     exact ⟨(),Weak.mk (by simp (disch:=omega) only [Y7,WV,WS,zShe,NN,Zm,e,go_sem,seval])⟩
   ·intro _ _;refine Zg [31] _ _ _ _ ?_;simp (disch:=omega) only [Y7,WV,WS,zShe,NN,Zm,go_sem,seval];refine Xn (Zc ?_);refine Zo (kT x t r c sp k hk Za) (Zc ?_);refine Fw (vP x.net t.prof (V2 t sp k) (Of t sp k) (ZJ t L b) hok.net Za) (Zc ?_);have hG:WU x.net t.prof (V2 t sp k) (Of t sp k) (ZJ t L b)=YY x t sp k (ZJ t L b):=rfl;rw [hG];clear hG
    generalize YY x t sp k (ZJ t L b)=g at *
    generalize ZJ t L b=d at *
    generalize WQ L b=s at *
    refine cD ?_ ?_<;>intro h1<;>simp (disch:=omega) only [Sh.out h1,go_sem,seval,↓reduceIte]
    ·have e:Wx t sp k g d s M=(WS,12):=by rw [Wx,if_pos h1]
     rw [e];exact we (by simp (disch:=omega) only [WS,zShe,Zm,go_sem,seval])
    ·refine cD ?_ ?_<;>intro h2<;>simp (disch:=omega) only [Sh.out h2,go_sem,seval,↓reduceIte]
     ·refine cD ?_ ?_<;>intro h3<;>simp (disch:=omega) only [Sh.out h3,go_sem,seval,↓reduceIte]
      ·have e:Wx t sp k g d s M=(WS,15):=by rw [Wx,if_neg h1,if_pos Za,if_pos h3]
       rw [e];exact we (by simp (disch:=omega) only [WS,zShe,Zm,go_sem,seval])
      ·refine Zp (Weak.fz (o:=4) (by rfl)) (Zg [] _ _ _ _ (UH ?_));refine cD ?_ ?_<;>intro h4<;>simp (disch:=omega) only [Sh.out h4,go_sem,seval,↓reduceIte]
       ·have e:Wx t sp k g d s M=(WS,16):=by rw [Wx,if_neg h1,if_pos Za,if_neg h3,if_pos h4]
        rw [e];exact we (by simp (disch:=omega) only [WS,zShe,Zm,go_sem,seval])
       ·have e:Wx t sp k g d s M=(⟨g.1,s+g.1-d,{ M with fin:=g.1,miles:=M.miles+g.2.1 }⟩,0):=by rw [Wx,if_neg h1,if_pos Za,if_neg h3,if_neg h4]
        have hMc:M.times_c=false:=by
         rw [<- hM,XW,if_neg Za]
         grind
        rw [e];exact we (by simp (disch:=omega) only [hMc,go_sem,seval])
     ·have h2': ¬k=sp.length:=Za
      have hkl:k<sp.length:=Za
      have hstp:=hok.stp _ (ZX hkl);refine Yf (Rf (nth sp k) g.1) ?_;unfold Fh
      by_cases h3:(nth sp k).cls<max g.1 (nth sp k).opn
      ·have e:Wx t sp k g d s M=(WS,14):=by simp_all [Wx]
       rw [e,if_pos h3];refine Zc ?_;exact we (by simp (disch:=omega) only [WS,zShe,Zm,go_sem,seval])
      ·rw [if_neg h3];refine Zc ?_;refine Zp (Weak.fz (o:=4) (by rfl)) (Zg [] _ _ _ _ (UH ?_));refine cD ?_ ?_<;>intro h4<;>simp (disch:=omega) only [Sh.out h4,go_sem,seval,↓reduceIte]
       ·have e:Wx t sp k g d s M=(WS,16):=by simp_all [Wx]
        rw [e];exact we (by simp (disch:=omega) only [WS,zShe,Zm,go_sem,seval])
       ·have e:Wx t sp k g d s M=(⟨max g.1 (nth sp k).opn+(nth sp k).serv,s+g.1-d,{ M with times_c:=false,times:=M.times++ [⟨g.1,max g.1 (nth sp k).opn,0,false⟩],miles:=M.miles+g.2.1 }⟩,0):=by simp_all [Wx,if_neg]
        rw [e];exact we
theorem T3 {x t sp k L b} (hs:0<sp.length) (hc:0<k->L.she.times_c=false) (he:(nxtF x t sp k L b).2=0):(nxtF x t sp k L b).1.she.times_c=false:=by
 have hm:0<k->(XW k (ZJ t L b) b L.she).times_c=false:=fun h=>by rw [XW,if_neg Za];exact hc h
 unfold nxtF at he ⊢
 generalize YY x t sp k (ZJ t L b)=g at *
 generalize ZJ t L b=d at *
 generalize WQ L b=s at *
 generalize XW k d b L.she=m at *
 unfold Wx at he ⊢
 grind
structure LabO (n k:Nat) (L:Lab):Prop where
 rng:LabR k L
 len:k<=n->L.she.times.length=k
 clip:0<k->L.she.times_c=false
theorem Hx {x t sp k L b} (hok:TrpOk x t sp) (hs:0<sp.length) (hk:k<=sp.length) (h:LabO sp.length k L) (he:(nxtF x t sp k L b).2=0):LabO sp.length (k+1) (nxtF x t sp k L b).1 :=
 ⟨Li hok hk h.rng he,fun hk2=>FW (h.len hk) he Za,fun _=>T3 hs h.clip he⟩
theorem Hy {x t sp} (hok:TrpOk x t sp) {st:Int} (hst:0<=st/\st<=4096):LabO sp.length 0 (labF t st) :=
 ⟨⟨by have:=hok.opn;grind [labF],by simp [labF],by simp [labF,zShe]⟩,fun _=>rfl,fun h=>Za⟩
theorem R9 (x:Inst) (t:Typ) (r:Rte) (c:Bool) (sp:List Stp) (hok:TrpOk x t sp) (k:Nat) (hk:k<=sp.length) (hs1:0<sp.length) (L:Lab) (hL:LabO sp.length k L) (b:Bool) :
  PT 278 [.p (Mz x t r c sp),.p (JE L),.p (.int .i64 (k:Nat)),.p (.bool b)] [.p (JE (nxtF x t sp k L b).1),.p (.int .i64 (nxtF x t sp k L b).2)] :=
 Zcm x t r c sp hok k hk hs1 L hL.rng (hL.len hk) hL.clip b
theorem Zje (x:Inst) (t:Typ) (r:Rte) (c:Bool) (sp:List Stp) (hok:TrpOk x t sp) (hs1:0<sp.length) (hst:0<=r.start/\r.start<=4096) (bs:List Bool) (d:Bool) (hb:bs.length=sp.length+1) :
  PT 259 [.p (Mz x t r c sp),.p (.list d (bs.map eB))] [.p (Fo (Xb x t sp 0 (labF t r.start) bs).1.she),.p (.int .i64 (Xb x t sp 0 (labF t r.start) bs).2)]:=by
 have hsl:=hok.len;refine Zf [] Tryz.func259 rfl ZbA ?_;simp (disch:=omega) only [Tryz.f259,go_sem,seval];refine (Ha x t r c sp).use (Zc ?_)
 refine Zl [2,4,6,13,14] (fun q:Nat×Lab=> [(15,.p (.int .i64 q.1))]) (fun q=> [Y7 x t r c sp,.cells [.p (.bool false),.p (.int .i64 0),.p (.list true []),.p (.int .i64 0),.p (.int .i64 0)],WV q.2])
  (fun q=>q.1<=bs.length/\Xb x t sp 0 (labF t r.start) bs=Xb x t sp q.1 q.2 (bs.drop q.1)/\LabO sp.length q.1 q.2) (fun q=>bs.length-q.1) (0,labF t r.start) ⟨Zb,Zb,Hy hok hst⟩ (Weak.mk ?_) ?_
 ·simp (disch:=omega) only [Y7,WV,go_sem,seval]
 ·rintro ⟨k,L⟩ ⟨hk,hrun,hL⟩;simp only at hk hrun hL;simp (disch:=omega) only [Y7,WV,go_sem,seval];refine cD ?_ ?_<;>intro h1<;>simp (disch:=omega) only [Sh.out h1,go_sem,seval,↓reduceIte]
  ·have hk2:k<bs.length:=Za
   have hdrop:bs.drop k=nth bs k::bs.drop (k+1):=by rw [VX hk2,Zh hk2]
   rw [hdrop,Xb] at hrun;have cn:=R9 x t r c sp hok k Za hs1 L hL (nth bs k);have hL2:=Hx (x:=x) (t:=t) (b:=nth bs k) hok hs1 Za hL
   generalize nxtF x t sp k L (nth bs k)=N at *
   refine Yf cn (Zc ?_);refine ZO ?_ ?_<;>intro h2
   ·rw [hrun,if_neg h2];exact we (by simp (disch:=omega) only [WS,zShe,Zm,go_sem,seval])
   ·rw [if_pos Za] at hrun;exact ⟨(k+1,N.1),⟨Za,hrun,hL2 Za⟩,Za,wk⟩
  ·have hkl:k=bs.length:=Za
   subst hkl;rw [U9,Xb] at hrun;rw [hrun];exact we
theorem oX (l m:Lab):PC 281 [.p (JE l),.p (JE m)] (.bool (Xc l m)):=by
 refine Zd Tryz.func281 rfl ZbW ?_;simp (disch:=omega) only [Tryz.f281,go_sem,seval];refine gT ?_ ?_<;>intro h<;>simp (disch:=omega) only [Sh.out h,go_sem,seval,↓reduceIte]
 ·simp [Xc,h]
 ·simp [Xc,h]
def gH (x:Inst) (t:Typ) (r:Rte) (c:Bool) (sp:List Stp) (o:List Lab) (f z:Lab):List AM.Obj:= [Y7 x t r c sp,.dead,.elems 7 (o.map JE),WV f,WV z]
theorem qQ (x:Inst) (t:Typ) (r:Rte) (c:Bool) (sp:List Stp) (o:List Lab) (f z m:Lab):ACalls Tryz.prog 280 [.p (JE m),.ptr 4 0] (gH x t r c sp o f z) fun y H'=>y= .p (.bool (Xc m z))/\H'=gH x t r c sp o f z:=by
 refine Zf [] Tryz.func280 rfl ZbV ?_;simp (disch:=omega) only [Tryz.f280,gH,Y7,WV,go_sem,seval];refine (oX m z).use (Zc ?_);exact we
theorem O7 (x:Inst) (t:Typ) (r:Rte) (c:Bool) (sp:List Stp) (o:List Lab) (f z:Lab) (hl:o.length<=2097152) :
  ACalls Tryz.prog 291 [.sl 2 0 o.length o.length,.fn (.func 280) [] [.ptr 4 0]] (gH x t r c sp o f z) fun y H'=>y= .p (.int .i64 (vB (fun m=>Xc m z) o))/\H'=gH x t r c sp o f z:=by
 refine Zf [] Tryz.func291 rfl Zb6 ?_;simp (disch:=omega) only [Tryz.f291,gH,Y7,WV,go_sem,seval];refine Zl [0,1,7] (fun k:Nat=> [(8,.p (.int .i64 k))]) (fun _=>gH x t r c sp o f z) (fun k=>k<=o.length/\ ∀j,j<k->Xc (nth o j) z=false) (fun k=>o.length-k) 0 Zb (Weak.mk ?_) ?_
 ·simp (disch:=omega) only [gH,Y7,WV,go_sem,seval,↓reduceIte]
 ·rintro k ⟨hk,hno⟩;simp (disch:=omega) only [gH,Y7,WV,go_sem,seval];refine cD ?_ ?_<;>intro h<;>simp (disch:=omega) only [Sh.out h,go_sem,seval,↓reduceIte]
  ·have hk2:k<o.length:=Za
   have hg:=qQ x t r c sp o f z (nth o k);simp (disch:=first | omega | (simp only [ZB,ZE,ZH,Z0,Xr,XF]<;>omega)) only [UO hk2,hk2,go_sem,seval,↓reduceIte];simp (disch:=omega) only [gH,Y7,WV,go_sem,seval] at hg;refine hg.useH (Zc ?_);refine cD ?_ ?_<;>intro h2<;>simp (disch:=omega) only [Sh.out h2,go_sem,seval,↓reduceIte]
   ·rw [gX (f:=fun m=>Xc m z) hk2 h2 hno];exact we
   ·exact ⟨k+1,⟨Za,Zr.2 ⟨hno,Za⟩⟩,Za,wk⟩
  ·have hkl:k=o.length:=Za
   subst hkl;rw [gZ hno];exact we
theorem GR (x:Inst) (t:Typ) (r:Rte) (c:Bool) (sp:List Stp) (o:List Lab) (f z:Lab) (hl:o.length<=2097152) :
  ACalls Tryz.prog 279 [.sl 2 0 o.length o.length,.fn (.func 280) [] [.ptr 4 0]] (gH x t r c sp o f z) fun y H'=>y= .p (.bool (o.any fun m=>Xc m z))/\H'=gH x t r c sp o f z:=by
 refine Zf [] Tryz.func279 rfl ZbU ?_;simp (disch:=omega) only [Tryz.f279,go_sem,seval];refine (O7 x t r c sp o f z hl).useH (Zc ?_);rw [gY];exact we (by simp (disch:=omega) only [gH,Y7,WV,go_sem,seval])
def To (x:Inst) (t:Typ) (sp:List Stp) (r:List Bool) (k:Nat) (f:Lab) (bs:List Bool) (l:List Lab):List Lab:=bs.filterMap (Xy x t sp k f)++Vi (Xy x t sp) (UE r) k l
theorem yV (x:Inst) (t:Typ) (r:Rte) (c:Bool) (sp:List Stp) (hok:TrpOk x t sp) (hs1:0<sp.length) (k:Nat) (hk:k<=sp.length) (hrl:r.rests.length<=1048576) (l:List Lab) (d:Bool) (hl:l.length<=1048576) (hL: ∀L∈l,LabO sp.length k L) :
  PC 258 [.p (Mz x t r c sp),.p (.list d (l.map JE)),.p (.int .i64 (k:Nat))] (.list false ((X6 Xc [] (Vi (Xy x t sp) (UE r.rests) k l)).map JE)):=by
 have hsl:=hok.len;refine Zf [2,16] Tryz.func258 rfl Zbz ?_;simp (disch:=omega) only [Tryz.f258,go_sem,seval];refine Zp (Weak.fz (o:=1) (by rfl)) (UH ?_);refine ZI [1,2,3] (fun cb:Bool=> [(7,.p (.list cb ((UE r.rests k).map eB)))]) (fun _=> [Y7 x t r c sp,.dead]) (fun _=>True) ?_ ?_
 ·refine Zc ?_;refine ZO ?_ ?_<;>intro h
  ·have hk2:k<r.rests.length:=Za
   have e:UE r.rests k=(r.rests.take (k+1)).drop k:=by
    grind [UE,X9]
   exact ⟨r.rests_c&&decide ((k:Int)+1=(r.rests.length:Int)),Weak.mk (by simp (disch:=omega) only [Y7,e,go_sem,seval])⟩
  ·have e:UE r.rests k= [false,true]:=by grind [UE]
   exact ⟨false,Weak.mk (by simp (disch:=omega) only [Y7,e,Zq,Zm,go_sem,seval])⟩
 ·intro cb _
  have hch:(UE r.rests k).length<=2:=by grind [UE]
  refine Zg [16] _ _ _ _ ?_;simp (disch:=omega) only [Y7,go_sem,seval]
  refine Z2 [16] [2,3,7,29,30] (fun q:Nat×List Lab=> [(8,.sl 2 0 q.2.length q.2.length),(31,.p (.int .i64 q.1))]) (fun q=> [Y7 x t r c sp,.dead,.elems 7 (q.2.map JE)])
   (fun q=>q.1<=l.length/\X6 Xc [] (Vi (Xy x t sp) (UE r.rests) k l)=X6 Xc q.2 (Vi (Xy x t sp) (UE r.rests) k (l.drop q.1))/\q.2.length<=2*q.1) (fun q=>l.length-q.1) (0,[]) Zb (Weak.ofNil 8 7 rfl Zb (Weak.mk ?_)) ?_
  ·simp (disch:=omega) only [Y7,Zm,ZE,go_sem,seval]
  ·rintro ⟨i,o⟩ ⟨hi,hpr,hol⟩;simp only at hi hpr hol;simp (disch:=omega) only [Y7,go_sem,seval];refine cD ?_ ?_<;>intro h1<;>simp (disch:=omega) only [Sh.out h1,go_sem,seval,↓reduceIte]
   ·have hi2:i<l.length:=Za
    have hLi:=hL _ (ZX hi2)
    have hdrop:l.drop i=nth l i::l.drop (i+1):=by rw [VX hi2,Zh hi2]
    rw [hdrop] at hpr;have hpr:X6 Xc [] (Vi (Xy x t sp) (UE r.rests) k l)=X6 Xc o (To x t sp r.rests k (nth l i) ((UE r.rests k).drop 0) (l.drop (i+1))):=hpr
    refine Zl [2,3,7,10,29,30,31,35,36] (fun q:Nat×List Lab=> [(8,.sl 2 0 q.2.length q.2.length),(37,.p (.int .i64 q.1))]) (fun q=> [Y7 x t r c sp,.dead,.elems 7 (q.2.map JE),WV (nth l i)])
     (fun q=>q.1<=(UE r.rests k).length/\X6 Xc [] (Vi (Xy x t sp) (UE r.rests) k l)=X6 Xc q.2 (To x t sp r.rests k (nth l i) ((UE r.rests k).drop q.1) (l.drop (i+1)))/\q.2.length<=2*i+q.1) (fun q=>(UE r.rests k).length-q.1) (0,o) ⟨Zb,hpr,hol⟩ (Weak.mk ?_) ?_
    ·simp (disch:=omega) only [Y7,WV,go_sem,seval]
    ·clear hpr hol;rintro ⟨j,o⟩ ⟨hj,hpr,hol⟩;simp only at hj hpr hol;simp (disch:=omega) only [Y7,WV,go_sem,seval];refine ZO ?_ ?_<;>intro h2
     ·have hj2:j<(UE r.rests k).length:=Za
      have hd2:(UE r.rests k).drop j=nth (UE r.rests k) j::(UE r.rests k).drop (j+1):=by rw [VX hj2,Zh hj2]
      have cn:=R9 x t r c sp hok k hk hs1 (nth l i) hLi (nth (UE r.rests k) j);have ho2:Xy x t sp k (nth l i) (nth (UE r.rests k) j)=if (nxtF x t sp k (nth l i) (nth (UE r.rests k) j)).2=0 then some (nxtF x t sp k (nth l i) (nth (UE r.rests k) j)).1 else none:=rfl;rw [hd2,To,List.filterMap_cons,ho2] at hpr
      generalize nxtF x t sp k (nth l i) (nth (UE r.rests k) j)=N at *
      refine Yf cn (Zc ?_);refine QP ?_ ?_<;>intro h3
      ·have hcl:=GR x t r c sp o (nth l i) N.1 Za;simp (disch:=omega) only [gH,Y7,WV,go_sem,seval] at hcl;refine hcl.useH (Zc ?_);rw [if_pos h3] at hpr;have hpr:X6 Xc [] (Vi (Xy x t sp) (UE r.rests) k l)=if (o.any fun m=>Xc m N.1)=true then X6 Xc o (To x t sp r.rests k (nth l i) ((UE r.rests k).drop (j+1)) (l.drop (i+1))) else X6 Xc (o++ [N.1]) (To x t sp r.rests k (nth l i) ((UE r.rests k).drop (j+1)) (l.drop (i+1))):=hpr;refine ZO ?_ ?_<;>intro h4
       ·rw [if_neg (by grind)] at hpr;exact ⟨(j+1,o++ [N.1]),⟨Za,hpr,by simp;omega⟩,Za,Weak.mk (by simp (disch:=omega) only [ZH,ZB,ZE,XG,Zq,Zm,go_sem,seval])⟩
       ·rw [if_pos (by grind)] at hpr;exact ⟨(j+1,o),⟨Za,hpr,by grind⟩,Za,wk⟩
      ·rw [if_neg h3] at hpr;exact ⟨(j+1,o),⟨Za,hpr,by grind⟩,Za,wk⟩
     ·have hjl:j=(UE r.rests k).length:=Za
      subst hjl;rw [U9,To,List.filterMap_nil,Zy] at hpr;exact ⟨(i+1,o),⟨Za,hpr,by grind⟩,Za,wk⟩
   ·have hil:i=l.length:=Za
    subst hil;have e:Vi (Xy x t sp) (UE r.rests) k []= []:=rfl;rw [U9,e,X6] at hpr;rw [hpr];refine Zp (Weak.fz (o:=2) (by rfl)) (Zg [] _ _ _ _ (UH ?_));exact we
def pS : PV:= .agg [.list true [],.list true [],.list true [],.list true [],.list true [],.list true [],.str [],.int .i64 0,.int .i64 0,.int .i64 0,.list true [],.int .i64 0,.int .i64 0,.int .i64 0,.int .i64 0,.int .i64 0,.int .i64 0,.int .i64 0,.int .i64 0,.int .i64 0,.int .i64 0,.int .i64 0,.list true [],.list true [],.list true []]
theorem sC (x:Inst) (r:Rte) (hty:0<=r.typ/\r.typ<(x.types.length:Int)) (htl:x.types.length<=1048576) (hvl:r.visits.length<=20) (hs: ¬(0<=r.start/\r.start<=4096)) :
  PT 256 [.p (Zv x),.p (Wy r)] [.p pS,.p (.bool false)]:=by
 have e1: ¬r.typ<0:=Za
 have e2: ¬(x.types.length:Int)<=r.typ:=Za
 refine Zf [] Tryz.func256 rfl iS ?_;simp (disch:=omega) only [Tryz.f256,e1,e2,go_sem,seval];refine gF ?_ ?_<;>intro h1<;>simp (disch:=omega) only [Sh.out h1,go_sem,seval,↓reduceIte]
 ·exact we (by simp (disch:=omega) only [pS,go_sem,seval])
 ·refine gF ?_ ?_<;>intro h2<;>simp (disch:=omega) only [Sh.out h2,go_sem,seval,↓reduceIte]
  ·exact we (by simp (disch:=omega) only [pS,go_sem,seval])
  ·omega
theorem Ny {x t sp} : ∀(bs:List Bool) (k:Nat) (L:Lab),¬(Xb x t sp k L bs).2=0->(Xb x t sp k L bs).1=WS
 | [],k,L,h=>by simp [Xb] at h
 | b::bs,k,L,h=>by
  rw [Xb] at h ⊢
  split
  ·rename_i c;rw [if_pos c] at h;exact Ny bs (k+1) _ h
  ·rfl
theorem TG (n:Nat):List.replicate n false∈YQ (List.replicate n false):=by
 rw [fromB_next];simp
theorem gP {l:List Lab} (h:WY Wb none l=none):l= []:=by
 cases l with
 | nil=>rfl
 | cons a l =>
  obtain ⟨z,hz,_⟩:=Vv (fin:=Wb) l a;have:WY Wb none (a::l)=WY Wb (some a) l:=rfl
  grind
theorem Td {x t sp} {st:Int} {r:List Bool} (h:WY Wb none ((XB r (sp.length+1)).filterMap (Y6 (Xy x t sp) 0 (labF t st)))=none): ¬(Xb x t sp 0 (labF t st) (YK r (sp.length+1))).2=0:=fun h0=>by
 have h1:=gP h;have h2:YK r (sp.length+1)∈XB r (sp.length+1):=XM.2 ⟨_,TG _,rfl⟩
 simp_all [Yw]
theorem OH {x t sp} {st:Int} {r:List Bool} (hr:r.length<=sp.length+1) (h:WY Wb none (Kb Xc (Xy x t sp) (UE r) (sp.length+1) 0 [labF t st])=none): ¬(Xb x t sp 0 (labF t st) (YK r (sp.length+1))).2=0 :=
 Td (by rw [Hz,VG,Hl r _ hr] at h;exact h)
def Jc (x:Inst) (r:Rte):She×Int:=if 0<=r.start/\r.start<=4096/\r.rests.length<=r.visits.length+1 then Xu x r else (zShe,2)
theorem eL {x t sp} {ch:Nat->List Bool} {k:Nat} {l:List Lab} (hok:TrpOk x t sp) (hs:0<sp.length) (hk:k<=sp.length) (h: ∀L∈l,LabO sp.length k L): ∀L∈X6 Xc [] (Vi (Xy x t sp) ch k l),LabO sp.length (k+1) L:=fun L hL=>by
 have h1:=AI Xc _ _ L hL;rw [Zy] at h1;obtain ⟨a,ha,hb⟩:=XQ.1 h1
 grind [Xy,Hx]
theorem Dw : ∀(c out:List Lab),(X6 Xc out c).length<=out.length+c.length
 | [],out=>by simp [X6]
 | x::c,out=>by
  rw [X6]
  split
  ·have:=Dw c out;simp;omega
  ·have:=Dw c (out++ [x]);simp at this ⊢;omega
theorem Hc {x t sp} {r:List Bool} {k:Nat} : ∀l:List Lab,(Vi (Xy x t sp) (UE r) k l).length<=2*l.length
 | []=>by simp [Vi]
 | a::l=>by
  have ih:=Hc (x:=x) (t:=t) (sp:=sp) (r:=r) (k:=k) l;have h1:(Vi (Xy x t sp) (UE r) k (a::l))=(UE r k).filterMap (Xy x t sp k a)++Vi (Xy x t sp) (UE r) k l:=rfl
  grind [UE]
theorem rX (x:Inst) (r:Rte) (hx:InstOk x) (hl:r.visits.length<=1048576) (hrl:r.rests.length<=1048576) (hty:0<=r.typ/\r.typ<(x.types.length:Int)) (h0:Xf x r.visits=0) :
  PT 232 [.p (Zv x),.p (Wy r)] [.p (Fo (Jc x r).1),.p (.int .i64 (Jc x r).2)]:=by
 have hd:=Qt hx;have hsq:=VK h0;have hol:=hd.ord;have htl:=hd.typ;have hvl:=hsq.len hol;have hok:=K0 hx hty hsq;have hsl:(ZM x r.visits).length=r.visits.length:=Ya
 have hs1:0<(ZM x r.visits).length:=by
  rw [hsl];have:=hsq.ne
  grind
 refine Zf [6,13,14] Tryz.func232 rfl Zbb ?_;simp (disch:=omega) only [Tryz.f232,go_sem,seval]
 by_cases hs:0<=r.start/\r.start<=4096
 ·refine Yf (Zcy x r hx hty h0 hs) (Zc ?_);refine cD ?_ ?_<;>intro h1<;>simp (disch:=omega) only [Sh.out h1,go_sem,seval,↓reduceIte]
  ·have e:Jc x r=(zShe,2):=by rw [Jc,if_neg Za]
   rw [e];exact we (by simp (disch:=omega) only [zShe,Zm,go_sem,seval])
  ·have hrs:r.rests.length<=r.visits.length+1:=Za
   have e:Jc x r=Xu x r:=by simp_all [Jc]
   have hbn:= @OH x (ZC x r) (ZM x r.visits) r.start r.rests Za;rw [e,Xu,IB Za];refine (Ha x (ZC x r) r false (ZM x r.visits)).use (Zc ?_)
   generalize hT:ZC x r=t at *
   generalize hS:ZM x r.visits=sp at *
   refine Zp (Weak.fz (o:=4) (by rfl)) ?_;refine Zg [13,14] _ _ _ _ (Zc ?_)
   refine Z2 [13,14] [3,4,6,8,38] (fun q:Nat×List Lab=> [(9,.p (.list false (q.2.map JE))),(39,.p (.int .i64 q.1))]) (fun _=> [Zj x,Xt r,.cells [.p (.bool false),.p (.int .i64 0),.p (.list true []),.p (.int .i64 0),.p (.int .i64 0)],Y7 x t r false sp,.dead])
    (fun q=>q.1<=sp.length+1/\Kb Xc (Xy x t sp) (UE r.rests) (sp.length+1) 0 [labF t r.start]=Kb Xc (Xy x t sp) (UE r.rests) (sp.length+1-q.1) q.1 q.2/\(∀L∈q.2,LabO sp.length q.1 L)/\q.2.length<=2^q.1) (fun q=>sp.length+1-q.1) (0,[labF t r.start]) ⟨Zb,Zb,fun L hL=>by grind [Hy],Zb⟩ (Weak.mk ?_) ?_
   ·simp (disch:=omega) only [Zj,Xt,Y7,Zq,Zm,Z8,ZZ,go_sem,seval]
   ·rintro ⟨k,l⟩ ⟨hk,hit,hlo,hll⟩;simp only at hk hit hlo hll;simp (disch:=omega) only [Zj,Xt,Y7,go_sem,seval];refine cD ?_ ?_<;>intro h2<;>simp (disch:=omega) only [Sh.out h2,go_sem,seval,↓reduceIte]
    ·have hk2:k<=sp.length:=Za
     have hp20:2^k<=2^20:=Yr Za Za;refine (yV x t r false sp hok hs1 k hk2 hrl l false Za hlo).use (Zc ?_)
     have hn:Kb Xc (Xy x t sp) (UE r.rests) (sp.length+1-k) k l=Kb Xc (Xy x t sp) (UE r.rests) (sp.length+1-(k+1)) (k+1) (X6 Xc [] (Vi (Xy x t sp) (UE r.rests) k l)):=by
      have e:sp.length+1-k=(sp.length+1-(k+1))+1:=Za
      rw [e,Kb]
     have hln:=Dw (Vi (Xy x t sp) (UE r.rests) k l) [];have hln2:=Hc (x:=x) (t:=t) (sp:=sp) (r:=r.rests) (k:=k) l;exact ⟨(k+1,X6 Xc [] (Vi (Xy x t sp) (UE r.rests) k l)),⟨Za,hit.trans hn,eL hok hs1 hk2 hlo,by grind⟩,Za,Weak.mk (by simp (disch:=omega) only [Z8,ZZ,go_sem,seval])⟩
    ·have hkn:k=sp.length+1:=Za
     subst hkn;rw [Ay,Kb] at hit;rw [hit] at hbn ⊢;clear hit;refine cD ?_ ?_<;>intro h3<;>simp (disch:=omega) only [Sh.out h3,go_sem,seval,↓reduceIte]
     ·have hl0:l= []:=YA Za;subst hl0;have hbn:=hbn rfl;refine YM (IA 3 rfl rfl (Zc ?_));refine ⟨_,_,Nl (e:=4) rfl Tryz.underlying40 Ze rfl rfl rfl ?_ ?_ ?_,?_⟩
      ·simp
      ·simp;omega
      ·intro q hq;obtain ⟨b,_,rfl⟩:=XM.1 hq
       rfl
      ·have hpl:(YK r.rests (sp.length+1)).length=sp.length+1:=by simp [YK];omega
       have hpad:r.rests.map eB++(PV.bool false::List.replicate r.visits.length (PV.bool false)).drop (r.rests.map eB).length=(YK r.rests (sp.length+1)).map eB:=by
        rw [YK,XG,<- KC,List.drop_replicate,Al,hsl,Z0];rfl
       have hcr:=Zje x t r false sp hok hs1 hs (YK r.rests (sp.length+1)) false hpl;have hbad:=Ny _ _ _ hbn;rw [hbad] at hcr;simp only [Z8,ZZ];rw [hpad]
       generalize hRP:YK r.rests (sp.length+1)=rp at *
       refine Zp (Weak.fz (o:=5) (by rfl)) (Zg [] _ _ _ _ (UH ?_));rw [if_pos Za];refine Yf hcr (Zc ?_);have hfm0:WY Wb none ([]:List Lab)=none:=rfl;rw [hfm0];exact we (by simp (disch:=omega) only [WS,zShe,Zm,go_sem,seval])
     ·cases l with
      | nil=>simp at h3
      | cons l0 l =>
       have e0:Kv ((l0::l).map JE) 0=JE l0:=rfl;have hn0:nth (l0::l) 0=l0:=rfl;simp (disch:=first | omega | (simp only [ZB,ZE,ZH,Z0,Xr,XF]<;>omega)) only [hn0,YT,go_sem,seval];have hfm:WY Wb none (l0::l)=WY Wb (some l0) l:=rfl;rw [hfm]
       have hlen:l.length<=2097152:=by
        have hp20:2^(sp.length+1)<=2^21:=Yr Za Za
        grind
       refine Zl [4,12,65,66] (fun q:Nat×Lab=> [(67,.p (.int .i64 q.1))]) (fun q=> [Zj x,Xt r,.cells [.p (.bool false),.p (.int .i64 0),.p (.list true []),.p (.int .i64 0),.p (.int .i64 0)],Y7 x t r false sp,.dead,WV q.2])
        (fun q=>q.1<=l.length/\WY Wb (some l0) l=WY Wb (some q.2) (l.drop q.1)) (fun q=>l.length-q.1) (0,l0) Zb (Weak.mk ?_) ?_
       ·simp (disch:=omega) only [Zj,Xt,Y7,WV,go_sem,seval]
       ·rintro ⟨i,m⟩ ⟨hi,hm⟩;simp only at hi hm;simp (disch:=omega) only [Zj,Xt,Y7,WV,go_sem,seval];refine cD ?_ ?_<;>intro h4<;>simp (disch:=omega) only [Sh.out h4,go_sem,seval,↓reduceIte]
        ·have hi2:i<l.length:=Za
         have hdrop:l.drop i=nth l i::l.drop (i+1):=by rw [VX hi2,Zh hi2]
         rw [hdrop,WY] at hm;refine ZO ?_ ?_<;>intro h5
         ·rw [if_pos (show Wb (nth l i)<Wb m from h5)] at hm;exact ⟨(i+1,nth l i),⟨Za,hm⟩,Za,wk⟩
         ·rw [if_neg (show ¬Wb (nth l i)<Wb m from h5)] at hm;exact ⟨(i+1,m),⟨Za,hm⟩,Za,wk⟩
        ·have hil:i=l.length:=Za
         subst hil;rw [U9,WY] at hm;rw [hm];exact we
 ·have e:Jc x r=(zShe,2):=by rw [Jc,if_neg (fun h=>hs ⟨h.1,h.2.1⟩)]
  rw [e];refine Yf (sC x r hty htl hvl hs) ?_;simp (disch:=omega) only [pS,go_sem,seval];exact we (by simp (disch:=omega) only [zShe,Zm,go_sem,seval])
end Go.Proofs.YtenjikkmmibffaaGreatDoor.K
namespace Go.AM
open Go.RowKit
theorem jL (k v:Int) (l:List (Int×Int)): ∃l',jK (.int .i64 k) (.int .i64 v) (l.map eII)=l'.map eII/\(∀q,KI l' q=if q=k then v else KI l q)/\l'.length<=l.length+1:=by
 unfold jK;rw [Do]
 cases hm:HH l k with
 | none =>
  refine ⟨l++ [(k,v)],by simp [eII],fun q=> ?_,Zb⟩
  have e1:HH (l++ [(k,v)]) k=some l.length:=by
   grind [HH]
  by_cases hq:q=k
  ·grind [KI]
  ·rw [if_neg hq];unfold KI
   have e3:HH (l++ [(k,v)]) q=HH l q:=by
    grind [HH]
   rw [e3]
   cases hc:HH l q with
   | none=>rfl
   | some i =>
    unfold HH at hc
    grind [Ut]
 | some i =>
  refine ⟨l.set i (k,v),by simp_all [eII],?_,Zb⟩;have hH:oat [.map (l.map eII)] 0= .map (l.map eII):=rfl;have:=Pf (H:= [.map (l.map eII)]) (o:=0) (l:=l) (k:=k) (i:=i) (v:=v) (K:=fun _ _=> ∀q,KI (l.set i (k,v)) q=if q=k then v else KI l q) hH hm fun h=>h;unfold K7 at this;obtain ⟨u,q1,_⟩:=FO hm
  simp_all [A5]
theorem jM {P:Program} {H:List Obj} {t:TypeId} {o:Nat} {l:List (Int×Int)} {k v:Int} {K:V->List Obj->Prop} (hT:jF P t=some (.int .i64,some (.int .i64 0))) (hH:oat H o= .map (l.map eII))
  (h: ∀l':List (Int×Int),(∀q,KI l' q=if q=k then v else KI l q)->K .junk (H.set o (.map (l'.map eII)))):A5 (DP P H t (.mp o) (.p (.int .i64 k)) (.p (.int .i64 v))) K:=by
 obtain ⟨kt,et,h1,h2,h3⟩:=M4 hT;obtain ⟨l',e,hg,_⟩:=jL k v l
 grind [DP,HB,A5]
end Go.AM
namespace Go.Proofs.YtenjikkmmibffaaGreatDoor.K
open Go Go.AM Go.Proofs
set_option maxRecDepth 8000
set_option maxHeartbeats 8000000
def Fm (l:List Vis) (k:Nat) (q:Int):Int:=((l.take k).countP fun v=>decide (v.order=q):Nat)
theorem Tq {l:List Vis} {k:Nat} (h:k<l.length) (q:Int):Fm l (k+1) q=if q=(nth l k).order then Fm l k q+1 else Fm l k q:=by
 unfold Fm;rw [X9 h,List.countP_append,Zh h]
 grind
theorem fI {l:List Vis} {k:Nat} (h:k<=l.length) (q:Int):0<=Fm l k q/\Fm l k q<=k:=by
 grind [Fm,Xr]
theorem OS {l:List Vis} {k:Nat} :Us l k=decide (Fm l k (nth l k).order=0):=by
 unfold Us Fm;rw [Wm];simp
theorem Bq (a b:Int):PC 260 [.p (.int .i64 a),.p (.int .i64 b)] (.bool (Xp a b)):=by
 refine Zd Tryz.func260 rfl ZbB ?_;simp (disch:=omega) only [Tryz.f260,go_sem,seval];refine gT ?_ ?_<;>intro h<;>simp (disch:=omega) only [Sh.out h,go_sem,seval,↓reduceIte]
 ·simp [Xp,h]
 simp_all [Xp]
theorem kJ (x:Inst) (r:Rte) (s:She) (hty:0<=r.typ/\r.typ<(x.types.length:Int)) (ho:x.orders.length<=1048576) (ht:x.types.length<=1048576) (hl:r.visits.length<=1048576) (hv:Inr x r.visits)
  (hc:0<=(ZC x r).fixed/\(ZC x r).fixed<=100000/\0<=(ZC x r).perMile/\(ZC x r).perMile<=100/\0<=(ZC x r).perTick/\(ZC x r).perTick<=100) (ho2:0<=(ZC x r).opn/\(ZC x r).opn<=4096)
  (hf: -4096<=s.fin/\s.fin<=8192) (hm:0<=s.miles/\s.miles<=1000000) :
  PC 233 [.p (Zv x),.p (Wy r),.p (Fo s)] (Eb (DC x r s)):=by
 have hti:r.typ.toNat<x.types.length:=Za
 have hT:jF Tryz.prog 339=some (.int .i64,some (.int .i64 0)):=Ze
 unfold DC;have htd:nth x.types r.typ.toNat=ZC x r:=rfl
 generalize ZC x r=t at *
 have e1: ¬r.typ<0:=Za
 have e2: ¬(x.types.length:Int)<=r.typ:=Za
 have p1:0<=t.perMile*s.miles/\t.perMile*s.miles<=100*1000000:=⟨Uw Za Za,VB Za Za Za Za⟩
 have hW: -8192<=s.fin-t.opn/\s.fin-t.opn<=8192:=Za
 have p2: -819200<=t.perTick*(s.fin-t.opn)/\t.perTick*(s.fin-t.opn)<=819200:=by
  generalize s.fin-t.opn=w at hW;have a1:=Bn hW.2 (show 0<=t.perTick by omega);have a2:=Bn hW.1 (show 0<=t.perTick by omega);omega
 have p3: -128<=(s.fin-t.opn).tdiv 64/\(s.fin-t.opn).tdiv 64<=128:=by
  grind
 have p4:0<=(s.fin-t.opn).tdiv 64*(s.fin-t.opn).tdiv 64/\(s.fin-t.opn).tdiv 64*(s.fin-t.opn).tdiv 64<=16384:=by
  generalize (s.fin-t.opn).tdiv 64=q at p3;refine ⟨?_,?_⟩
  ·rcases Av 0 q with h | h
   ·exact Uw h h
   ·exact Int.mul_nonneg_of_nonpos_of_nonpos h h
  ·rcases Av 0 q with h | h
   ·have:=VB p3.2 p3.2 h Za;omega
   ·have h2:0<= -q:=Za
    have:=VB (show-q<=128 by omega) (show-q<=128 by omega) h2 Za
    grind
 refine Zd Tryz.func233 rfl Zbc ?_;simp (disch:=omega) only [Tryz.f233,e1,e2,htd,go_sem,seval]
 refine Zl [3,4,6,10,11,59,60] (fun q:Nat×List (Int×Int)=> [(61,.p (.int .i64 q.1))]) (fun q=> [Zj x,Xt r,.cells [.p (.bool s.rest),.p (.int .i64 s.dep),.p (.list s.times_c (s.times.map eTim)),.p (.int .i64 s.fin),.p (.int .i64 s.miles)],CR 0 0 0 0,Ye t,CR (t.fixed+t.perMile*s.miles+t.perTick*(s.fin-t.opn)) (chgF x r.visits r.typ q.1).1 (chgF x r.visits r.typ q.1).2 ((s.fin-t.opn).tdiv 64*(s.fin-t.opn).tdiv 64),.map (q.2.map eII)])
  (fun q=>q.1<=r.visits.length/\ ∀n,KI q.2 n=Fm r.visits q.1 n) (fun q=>r.visits.length-q.1) (0,[]) ⟨Zb,fun n=>rfl⟩ (Weak.mk ?_) ?_
 ·simp (disch:=omega) only [Zj,Xt,Ye,CR,chgF,go_sem,seval]
 ·rintro ⟨k,m⟩ ⟨hk,hmg⟩;simp only at hk hmg;have hch:=BU (x:=x) (l:=r.visits) (t:=r.typ) k;simp (disch:=omega) only [Zj,Xt,Ye,CR,go_sem,seval];refine cD ?_ ?_<;>intro h1<;>simp (disch:=omega) only [Sh.out h1,go_sem,seval,↓reduceIte]
  ·have hk2:k<r.visits.length:=Za
   obtain ⟨v1,v2⟩:=hv _ (Zt hk2)
   have e3: ¬(nth r.visits k).order<0:=Za
   have e4: ¬(x.orders.length:Int)<=(nth r.visits k).order:=Za
   have v3:(nth r.visits k).order.toNat<x.orders.length:=Za
   have hcs:=Tq hk2;have hcr:=fI hk (nth r.visits k).order;have hfi:=OS (l:=r.visits) (k:=k);have hch2:chgF x r.visits r.typ (k+1)=_:=chgF.eq_2 x r.visits r.typ k;refine M0 hT rfl ?_;rw [hmg];refine Zc ?_;refine jM hT rfl fun m' hm'=> ?_
   have hmg': ∀n,KI m' n=Fm r.visits (k+1) n:=fun n=>by grind
   simp (disch:=omega) only [e3,e4,Z8,ZZ,go_sem,seval];refine M0 hT rfl ?_;rw [hm',if_pos rfl];refine Zc ?_;refine ZO ?_ ?_<;>intro h2
   ·have h3: ¬Us r.visits k=true:=by grind
    rw [if_neg h3] at hch2;exact ⟨(k+1,m'),⟨Za,hmg'⟩,Za,Weak.mk (by simp (disch:=omega) only [hch2,go_sem,seval])⟩
   ·have h3:Us r.visits k=true:=by grind
    rw [if_pos h3] at hch2;refine (Bq (nth x.orders (nth r.visits k).order.toNat).now r.typ).use (Zc ?_);refine cD ?_ ?_<;>intro h4<;>simp (disch:=omega) only [Sh.out h4,go_sem,seval,↓reduceIte]
    ·rw [if_pos h4] at hch2;refine (Bq (nth x.orders (nth r.visits k).order.toNat).last r.typ).use (Zc ?_);refine ZO ?_ ?_<;>intro h5
     ·rw [if_pos h5] at hch2;exact ⟨(k+1,m'),⟨Za,hmg'⟩,Za,Weak.mk (by simp (disch:=omega) only [hch2,go_sem,seval])⟩
     ·rw [if_neg (by rw [h5];simp)] at hch2;exact ⟨(k+1,m'),⟨Za,hmg'⟩,Za,Weak.mk (by simp (disch:=omega) only [hch2,Uy,go_sem,seval])⟩
    ·rw [if_neg (by rw [h4];simp)] at hch2;refine (Bq (nth x.orders (nth r.visits k).order.toNat).last r.typ).use (Zc ?_);refine ZO ?_ ?_<;>intro h5
     ·rw [if_pos h5] at hch2;exact ⟨(k+1,m'),⟨Za,hmg'⟩,Za,Weak.mk (by simp (disch:=omega) only [hch2,Uy,go_sem,seval])⟩
     ·rw [if_neg (by rw [h5];simp)] at hch2;exact ⟨(k+1,m'),⟨Za,hmg'⟩,Za,Weak.mk (by simp (disch:=omega) only [hch2,Uy,go_sem,seval])⟩
  grind
end Go.Proofs.YtenjikkmmibffaaGreatDoor.K
namespace Go.Proofs.YtenjikkmmibffaaGreatDoor.K
open Go Go.AM Go.Proofs
set_option maxRecDepth 8000
set_option maxHeartbeats 8000000
@[go_sem] theorem Zd7 {f:FuncId} :(PV.fn f).cells= [.fn f]:=Zk rfl rfl
def ZcN : AM.Obj:= .cells [.p (.bool false),.p (.int .i64 0),.p (.list true []),.p (.int .i64 0),.p (.int .i64 0)]
theorem OV (x:Inst) (r:Rte) (hx:InstOk x) (hl:r.visits.length<=1048576) (hrl:r.rests.length<=1048576):ACalls Tryz.prog 218 [.p (Zv x),.p (Wy r)] [] fun y H'=>y=BY x r/\H'= []:=by
 have hld:=Qt hx;have htl:=hld.typ;have hol:=hld.ord;have chk:=kK x r hx hl
 have htb:x.types.length<=6:=by have:=hx.types.1;simp only [rng,Zs] at this;omega
 refine Zf [] Tryz.func218 rfl Za0 ?_;simp (disch:=omega) only [Tryz.f218,go_sem,seval];refine gF ?_ ?_<;>intro h1<;>simp (disch:=omega) only [Sh.out h1,go_sem,seval,↓reduceIte]
 ·have e:XS x r=2:=by rw [XS,if_pos Za]
  rw [YD (e:=2) (by rw [Xv,e];rfl) Za];exact we (by simp (disch:=omega) only [zShe,zSco,Zm,go_sem,seval])
 ·refine cD ?_ ?_<;>intro h2<;>simp (disch:=omega) only [Sh.out h2,go_sem,seval,↓reduceIte]
  ·have e:XS x r=2:=by simp_all [XS]
   rw [YD (e:=2) (by rw [Xv,e];rfl) Za];exact we (by simp (disch:=omega) only [zShe,zSco,Zm,go_sem,seval])
  ·have hty:0<=r.typ/\r.typ<(x.types.length:Int):=Za
   have hti:r.typ.toNat<x.types.length:=Za
   have hnum:=WK hx hti;have htyp:nth x.types r.typ.toNat=ZC x r:=rfl;rw [htyp] at hnum
   have hsk: ∀o∈x.orders,o.skills<9223372036854775808:=fun o hm=>by
    obtain ⟨i,hi,rfl⟩:=ZT.1 hm;have:=(hx.orders.2 i hi).skills
    grind [Zh]
   refine Zl [2,3,4,5,25,26] (fun k:Nat=> [(27,.p (.int .i64 k))]) (fun _=> [Zj x,Xt r,ZcN,CR 0 0 0 0,.elems 1 [.fn 229,.fn 230,.fn 231]])
    (fun k=>k<=3/\(0<k->Xf x r.visits=0)/\(1<k-> ¬(r.visits.any fun v=> !Yh (ZC x r) (nth x.orders v.order.toNat).skills)=true)/\(2<k->Qb x (ZC x r).cap r.visits=true)) (fun k=>3-k) 0 ⟨Za,Za,Za,Za⟩ (Weak.mk ?_) ?_
   ·simp (disch:=omega) only [Zj,Xt,CR,ZcN,go_sem,seval]
   ·rintro k ⟨hk,k1,k2,k3⟩;simp (disch:=omega) only [Zj,Xt,CR,ZcN,go_sem,seval];refine cD ?_ ?_<;>intro h3<;>simp (disch:=omega) only [Sh.out h3,go_sem,seval,↓reduceIte]
    ·by_cases hk0:k=0
     ·subst hk0;have he:Kv [PV.fn 229,PV.fn 230,PV.fn 231] 0=PV.fn 229:=rfl;simp (disch:=first | omega | (simp only [ZB,ZE,ZH,Z0,Xr,XF]<;>omega)) only [he,go_sem,seval,↓reduceIte];refine (chk).use (Zc ?_);refine ZO ?_ ?_<;>intro h4
      ·have e:XS x r=Xf x r.visits:=by simp_all [XS]
       rw [YD (e:=Xf x r.visits) (by simp_all [Xv]) h4];exact we (by simp (disch:=omega) only [zShe,zSco,Zm,go_sem,seval])
      ·exact ⟨1,⟨Za,fun _=>Za,Za,Za⟩,Za,wk⟩
     ·have h0:=k1 Za;have hsq:=VK h0
      have hr0:XS x r=if (r.visits.any fun v=> !Yh (ZC x r) (nth x.orders v.order.toNat).skills)=true then 18 else if Qb x (ZC x r).cap r.visits=false then 17 else if ¬(0<=r.start/\r.start<=4096/\r.rests.length<=r.visits.length+1) then 2 else 0:=by
       rw [XS,if_neg (fun h=>h hty),if_neg Za]
      by_cases hk1:k=1
      ·subst hk1;have he:Kv [PV.fn 229,PV.fn 230,PV.fn 231] 1=PV.fn 230:=rfl;simp (disch:=first | omega | (simp only [ZB,ZE,ZH,Z0,Xr,XF]<;>omega)) only [he,go_sem,seval,↓reduceIte];refine (kI x r hty (fun v hv=>by have:=hsq.inr v hv;grind [MT]) hl htl Za Za hsk).use (Zc ?_)
       by_cases h5:(r.visits.any fun v=> !Yh (ZC x r) (nth x.orders v.order.toNat).skills)=true
       ·rw [if_pos h5] at hr0 ⊢;rw [YD (e:=18) (by rw [Xv,hr0];rfl) Za];refine Zc ?_;exact we (by simp (disch:=omega) only [zShe,zSco,Zm,go_sem,seval])
       ·rw [if_neg h5];refine Zc ?_;exact ⟨2,⟨Za,fun _=>h0,fun _=>h5,Za⟩,Za,wk⟩
      ·have hk2:k=2:=Za
       subst hk2;have he:Kv [PV.fn 229,PV.fn 230,PV.fn 231] 2=PV.fn 231:=rfl;simp (disch:=first | omega | (simp only [ZB,ZE,ZH,Z0,Xr,XF]<;>omega)) only [he,go_sem,seval,↓reduceIte];refine (kF x r hx hl hty h0).use (Zc ?_);rw [if_neg (k2 Za)] at hr0
       cases h5:Qb x (ZC x r).cap r.visits with
       | false =>
        rw [if_pos h5] at hr0;rw [YD (e:=17) (by rw [Xv,hr0];rfl) Za];simp only [YS,YC];refine Zc ?_;exact we (by simp (disch:=omega) only [zShe,zSco,Zm,go_sem,seval])
       | true =>
        simp only [if_true];refine Zc ?_;exact ⟨3,⟨Za,fun _=>h0,fun _=>k2 Za,fun _=>Zb⟩,Za,wk⟩
    ·have hk3:k=3:=Za
     subst hk3;have h0:=k1 Za;have hsq:=VK h0
     have hr0:XS x r=if ¬(0<=r.start/\r.start<=4096/\r.rests.length<=r.visits.length+1) then 2 else 0:=by
      rw [XS,if_neg (fun h=>h hty),if_neg Za,if_neg (k2 Za),if_neg (by grind)]
     have cb:=rX x r hx hl hrl hty h0;have hok:=K0 hx hty hsq
     have hbr:Jc x r=Xu x r->(Xu x r).2=0->(0<=r.start/\r.start<=4096/\r.rests.length<=r.visits.length+1)->(0<=(Xu x r).1.fin/\(Xu x r).1.fin<=8192)/\(0<=(Xu x r).1.miles/\(Xu x r).1.miles<=210000):=fun _ hz hs =>
      Fi hok ⟨hs.1,hs.2.1⟩ (by grind [Ya]) hz
     by_cases h6:0<=r.start/\r.start<=4096/\r.rests.length<=r.visits.length+1
     ·have e:XS x r=0:=Za
      have ee:Xv x r=(Xu x r).2:=by rw [Xv,if_pos e]
      have eb:Jc x r=Xu x r:=by rw [Jc,if_pos h6]
      have hbr:=fun hz=>hbr eb hz h6;rw [eb] at cb
      have es:X4 x r=if (Xu x r).2=0 then (Xu x r).1 else zShe:=by rw [X4,ee]
      have ep:Wa x r=if (Xu x r).2=0 then DC x r (Xu x r).1 else zSco:=by rw [Wa,ee]
      unfold BY;rw [ee,es,ep];clear ee es ep eb
      generalize Xu x r=q at *
      obtain ⟨sh,eb⟩:=q;simp only at cb hbr ⊢;refine Yf cb (Zc ?_);refine cD ?_ ?_<;>intro h7<;>simp (disch:=omega) only [Sh.out h7,go_sem,seval,↓reduceIte]
      ·exact we (by simp (disch:=omega) only [zShe,zSco,Zm,go_sem,seval])
      ·have h7':eb=0:=Za
       try rw [if_pos h7',if_pos h7']
       subst h7';obtain ⟨g1,g2⟩:=hbr rfl;refine ZA 5 mixed Ze Ze (Zc ?_);refine Zo (kJ x r sh hty Za htl hl hsq.inr hnum.2.2.2.1 Za Za Za) (Zc ?_);exact we
     ·have e:XS x r=2:=Za
      have eb:Jc x r=(zShe,2):=by rw [Jc,if_neg h6]
      rw [YD (e:=2) (by rw [Xv,e];rfl) Za];rw [eb] at cb;refine Yf cb (Zc ?_);exact we (by simp (disch:=omega) only [zShe,zSco,Zm,go_sem,seval])
theorem Uc {x:Inst} {r:Rte} (h:Xv x r=0):XS x r=0:=by
 grind [Xv]
theorem U0 {x:Inst} {r:Rte} (h:XS x r=0):(0<=r.typ/\r.typ<(x.types.length:Int))/\Xf x r.visits=0/\(0<=r.start/\r.start<=4096/\r.rests.length<=r.visits.length+1):=by
 unfold XS at h;omega
theorem MA {x:Inst} {r:Rte} (hx:InstOk x) (h:Xv x r=0):(0<=(X4 x r).fin/\(X4 x r).fin<=8192)/\(0<=(X4 x r).miles/\(X4 x r).miles<=210000):=by
 obtain ⟨hty,h0,hs⟩:=U0 (Uc h)
 have e:X4 x r=(Xu x r).1:=by rw [X4,if_pos h]
 have ee:(Xu x r).2=0:=by rw [Xv,if_pos (Uc h)] at h;exact h
 rw [e];exact Fi (K0 hx hty (VK h0)) ⟨hs.1,hs.2.1⟩ (by grind [Ya]) ee
theorem Hj {x:Inst} {r:Rte} (hx:InstOk x) (hl:r.visits.length<=1048576) (h:Xv x r=0):scoR 1073741824 (Wa x r):=by
 have hg:=MA hx h;obtain ⟨hty,_,_⟩:=U0 (Uc h);have hnum:=WK hx (show r.typ.toNat<x.types.length by omega);have htyp:nth x.types r.typ.toNat=ZC x r:=rfl;rw [htyp] at hnum
 have e:(Xu x r).1=X4 x r:=by rw [X4,if_pos h]
 have hch:=BU (x:=x) (l:=r.visits) (t:=r.typ) r.visits.length;rw [Wa,if_pos h,e];unfold DC scoR
 generalize X4 x r=s at *
 generalize ZC x r=t at *
 have p1:0<=t.perMile*s.miles/\t.perMile*s.miles<=100*210000:=⟨Uw Za Za,VB Za Za Za Za⟩
 have hW: -8192<=s.fin-t.opn/\s.fin-t.opn<=8192:=Za
 have p2: -819200<=t.perTick*(s.fin-t.opn)/\t.perTick*(s.fin-t.opn)<=819200:=by
  generalize s.fin-t.opn=w at hW;have a1:=Bn hW.2 (show 0<=t.perTick by omega);have a2:=Bn hW.1 (show 0<=t.perTick by omega);omega
 have p3: -128<=(s.fin-t.opn).tdiv 64/\(s.fin-t.opn).tdiv 64<=128:=by
  grind
 have p4:0<=(s.fin-t.opn).tdiv 64*(s.fin-t.opn).tdiv 64/\(s.fin-t.opn).tdiv 64*(s.fin-t.opn).tdiv 64<=16384:=by
  generalize (s.fin-t.opn).tdiv 64=q at p3;refine ⟨?_,?_⟩
  ·rcases Av 0 q with h | h
   ·exact Uw h h
   ·exact Int.mul_nonneg_of_nonpos_of_nonpos h h
  ·rcases Av 0 q with h | h
   ·have:=VB p3.2 p3.2 h Za;omega
   ·have h2:0<= -q:=Za
    have:=VB (show-q<=128 by omega) (show-q<=128 by omega) h2 Za
    grind
 grind
def YG (x:Inst) (r:Rte):Int×Int:=if Xv x r=0 then Yz (Wa x r) else (0,Xv x r)
theorem mR (s:Sco):0<=(Yz s).1/\(Yz s).1<=36028797018963968:=by
 grind [Yz]
theorem Ns (x:Inst) (r:Rte):0<=(YG x r).1/\(YG x r).1<=36028797018963968:=by
 unfold YG
 split
 ·exact mR _
 ·simp
theorem bA (x:Inst) (r:Rte) (hx:InstOk x) (hb:ZcJ r):PT 189 [.p (Zv x),.p (Wy r)] [.p (.int .i64 (YG x r).1),.p (.int .i64 (YG x r).2)]:=by
 have ce:=OV x r hx hb.1 hb.2;refine Zf [] Tryz.func189 rfl ZaJ ?_;simp (disch:=omega) only [Tryz.f189,go_sem,seval];unfold BY at ce;refine N4 ce (Zc ?_);refine cD ?_ ?_<;>intro h1<;>simp (disch:=omega) only [Sh.out h1,go_sem,seval,↓reduceIte]
 ·rw [YG,if_neg h1];exact we
 ·have h0:Xv x r=0:=Za
  rw [YG,if_pos h0];refine WL (HK (Wa x r) (AK Za (Hj hx hb.1 h0))) (Zc ?_);exact we
theorem Nw (x:Inst) (r:Rte) (hx:InstOk x) (hb:ZcJ r):PT 128 [.p (Zv x),.p (Wy r)] [.p (.int .i64 (YG x r).1),.p (.int .i64 (YG x r).2)]:=by
 have ce:=BZ x r hx hb.1 hb.2;refine Zf [] Tryz.func128 rfl zV ?_;simp (disch:=omega) only [Tryz.f128,go_sem,seval];unfold BY at ce;refine N4 ce (Zc ?_);refine cD ?_ ?_<;>intro h1<;>simp (disch:=omega) only [Sh.out h1,go_sem,seval,↓reduceIte]
 ·rw [YG,if_neg h1];exact we
 ·have h0:Xv x r=0:=Za
  rw [YG,if_pos h0];refine WL (GB (Wa x r) (AK Za (Hj hx hb.1 h0))) (Zc ?_);exact we
end Go.Proofs.YtenjikkmmibffaaGreatDoor.K
