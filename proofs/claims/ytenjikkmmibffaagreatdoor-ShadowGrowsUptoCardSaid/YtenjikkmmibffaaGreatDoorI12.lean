/- Declarations that the closing texts need, part 12: joined by tools/slim.py. -/
import Derived.Test.YtenjikkmmibffaaGreatDoorI11
set_option linter.unusedVariables false
set_option linter.unusedSimpArgs false
namespace Go.Proofs.YtenjikkmmibffaaGreatDoor.K
open Go Go.AM Go.Proofs
def EL (x:Inst) (l:List Vis) (n i:Nat):Bool:=(l.take n).foldl (fun on v=>if v.order=(i:Int) then !v.drp else on) (decide ((nth x.orders i).pick.place<0))
theorem kP {x:Inst} {l:List Vis} {i:Nat} :EL x l 0 i=decide ((nth x.orders i).pick.place<0):=by simp [EL]
theorem FZ {x:Inst} {l:List Vis} {n i:Nat} (h:n<l.length):EL x l (n+1) i=if (nth l n).order=(i:Int) then !(nth l n).drp else EL x l n i:=by
 grind [EL,Yb,Zh]
structure SqOk (x:Inst) (l:List Vis):Prop where
 ne:l≠ []
 inr:Inr x l
 nd:l.Nodup
 pair: ∀v∈l,pairB x.orders l v=true
theorem VS {x:Inst} {l:List Vis} (h:Xj x l=0):SqOk x l:=by
 unfold Xj at h
 split at h
 ·simp at h
 ·rename_i h1
  split at h
  ·simp at h
  ·split at h
   ·simp at h
   ·rename_i h3
    split at h
    ·simp at h
    ·rename_i h4;refine ⟨fun e=>h1 (.inl (by simp [e])),fun v hv=> ?_,BL.1 (by grind),fun v hv=> ?_⟩
     ·grind [W2]
     grind
structure OwnV (x:Inst) (l:List Vis) (i:Nat):Prop where
 pick:0<=(nth x.orders i).pick.place->(⟨i,false⟩:Vis)∈l
 drp:0<=(nth x.orders i).drp.place->(⟨i,true⟩:Vis)∈l
 both:0<=(nth x.orders i).pick.place->0<=(nth x.orders i).drp.place->vIx l ⟨i,false⟩<vIx l ⟨i,true⟩
 isP:(⟨i,false⟩:Vis)∈l->0<=(nth x.orders i).pick.place
 isD:(⟨i,true⟩:Vis)∈l->0<=(nth x.orders i).drp.place
theorem SqOk.own {x:Inst} {l:List Vis} (h:SqOk x l) {i:Nat} (hi: ∃v∈l,v.order=(i:Int)):OwnV x l i:=by
 obtain ⟨v0,hv0,ho⟩:=hi
 have key: ∀v∈l,v.order=(i:Int)->v∈ZV x.orders i/\QQ l (-1) (ZV x.orders i)=true:=fun v hv hvo=>by
  have:=h.pair v hv;simp only [pairB,hvo,XO,ZB,Zq] at this;exact ⟨WB.1 this.1,this.2⟩
 obtain ⟨_,hasc⟩:=key v0 hv0 ho;have mem: ∀b:Bool,(⟨i,b⟩:Vis)∈l->(⟨i,b⟩:Vis)∈ZV x.orders i:=fun b hb=>(key _ hb rfl).1
 have hp:(⟨i,false⟩:Vis)∈ZV x.orders i->0<=(nth x.orders i).pick.place:=fun hm=>by
  unfold ZV at hm
  grind
 have hd:(⟨i,true⟩:Vis)∈ZV x.orders i->0<=(nth x.orders i).drp.place:=fun hm=>by
  unfold ZV at hm
  grind
 have m1: ∀v,-1<vIx l v->v∈l:=fun v hv=>WB.1 Za;unfold ZV at hasc
 by_cases c1:0<=(nth x.orders i).pick.place<;>by_cases c2:0<=(nth x.orders i).drp.place
 ·simp only [c1,c2,if_true,ZK,Zy,QQ,JS,ZB,Zq] at hasc;exact ⟨fun _=>m1 _ hasc.1,fun _=>m1 _ Za,fun _ _=>hasc.2,fun _=>c1,fun _=>c2⟩
 ·simp only [c1,c2,if_true,Yi,Wp,QQ,JS,Zq] at hasc;exact ⟨fun _=>m1 _ hasc,fun h=>absurd h c2,fun _ h=>absurd h c2,fun _=>c1,fun hm=>hd (mem _ hm)⟩
 ·simp only [c1,c2,if_true,Yi,Zy,QQ,JS,Zq] at hasc;exact ⟨fun h=>absurd h c1,fun _=>m1 _ hasc,fun h=>absurd h c1,fun hm=>hp (mem _ hm),fun _=>c2⟩
 ·exact ⟨fun h=>absurd h c1,fun h=>absurd h c2,fun h=>absurd h c1,fun hm=>hp (mem _ hm),fun hm=>hd (mem _ hm)⟩
theorem Jw {l:List Vis} (hn:l.Nodup) {v:Vis} {n:Nat} :v∈l.take n↔0<=vIx l v/\vIx l v<(n:Int):=by
 constructor
 ·intro h;obtain ⟨j,h1,h2,rfl⟩:=Qo h
  grind [Q8]
 ·intro ⟨h1,h2⟩;obtain ⟨h3,h4⟩:=EW h1
  grind [KK]
theorem kN {x:Inst} {l:List Vis} (h:SqOk x l) (i:Nat): ∀n,n<=l.length->EL x l n i=if (⟨i,true⟩:Vis)∈l.take n then false else if (⟨i,false⟩:Vis)∈l.take n then true else decide ((nth x.orders i).pick.place<0)
 | 0,_=>by simp [EL]
 | n+1,hn=>by
  have hk:n<l.length:=Za
  have hat:=Q8 h.nd hk;rw [FZ hk,kN h i n Za]
  by_cases c:(nth l n).order=(i:Int)
  ·rw [if_pos c];have ho:=h.own (i:=i) ⟨nth l n,Zt hk,c⟩
   cases hd:(nth l n).drp with
   | true =>
    have hv:nth l n=⟨i,true⟩:=by rw [<- c,<- hd]
    rw [hv] at hat;have:(⟨i,true⟩:Vis)∈l.take (n+1):=(Jw h.nd).2 Za;rw [if_pos this];rfl
   | false =>
    have hv:nth l n=⟨i,false⟩:=by rw [<- c,<- hd]
    rw [hv] at hat;have h1:(⟨i,false⟩:Vis)∈l.take (n+1):=(Jw h.nd).2 Za
    have h2: ¬(⟨i,true⟩:Vis)∈l.take (n+1):=fun hm=>by
     have h3:=J0 hm;have h4:=(Jw h.nd).1 hm;have h5:=ho.both (ho.isP (J0 h1)) (ho.isD h3);omega
    rw [if_neg h2,if_pos h1];rfl
  ·rw [if_neg c]
   have e: ∀b:Bool,((⟨i,b⟩:Vis)∈l.take (n+1))=((⟨i,b⟩:Vis)∈l.take n):=fun b=>by
    rw [Yb hk,Xd,<- Zh hk];refine propext ⟨fun hm=>hm.resolve_right fun hm=> ?_,.inl⟩;simp at hm;exact c (by rw [<- hm])
   simp only [e]
theorem ZcM {x:Inst} {l:List Vis} (h:SqOk x l) {k i:Nat} (hk:k<l.length) (hi:(nth l k).order=(i:Int)):EL x l k i=(nth l k).drp:=by
 have hat:=Q8 h.nd hk;have ho:=h.own (i:=i) ⟨nth l k,Zt hk,hi⟩;have hm:=Zt hk;rw [kN h i k Za]
 cases hd:(nth l k).drp with
 | true =>
  have hv:nth l k=⟨i,true⟩:=by rw [<- hi,<- hd]
  rw [hv] at hat hm
  have h1: ¬(⟨i,true⟩:Vis)∈l.take k:=fun hm=>by have:=(Jw h.nd).1 hm;omega
  rw [if_neg h1]
  by_cases c:0<=(nth x.orders i).pick.place
  ·have h2:=ho.both c (ho.isD hm);have h3:(⟨i,false⟩:Vis)∈l.take k:=(Jw h.nd).2 ⟨WB.2 (ho.pick c),Za⟩
   grind
  grind
 | false =>
  have hv:nth l k=⟨i,false⟩:=by rw [<- hi,<- hd]
  rw [hv] at hat hm;have hp:=ho.isP hm
  have h1: ¬(⟨i,false⟩:Vis)∈l.take k:=fun hm=>by have:=(Jw h.nd).1 hm;omega
  grind
theorem uE {f g:Nat->Int} {i:Nat} (h: ∀q,q≠i->f q=g q): ∀n,i<n->((List.range n).map f).sum=((List.range n).map g).sum+(f i-g i):=by
 have same: ∀n,n<=i->((List.range n).map f).sum=((List.range n).map g).sum:=fun n hn=>by
  grind [W1]
 intro n
 induction n with
 | zero=>omega
 | succ n ih =>
  intro hi;simp only [Yu,Xz,Zr,Zn,List.sum_append,List.sum_cons,List.sum_nil]
  grind
theorem SO {f:Nat->Int} {b:Int} (hb:0<=b) (h: ∀q,0<=f q/\f q<=b): ∀n:Nat,0<=((List.range n).map f).sum/\((List.range n).map f).sum<=b*n
 | 0=>Zb
 | n+1=>by
  have ih:=SO hb h n
  grind [Yu]
theorem J8 {p:Nat->Bool} {f:Nat->Int} : ∀l:List Nat,((l.filter p).map f).sum=(l.map fun i=>if p i=true then f i else 0).sum
 | []=>rfl
 | a::l=>by
  rw [Cv,Zr,List.sum_cons]
  by_cases h:p a=true
  ·rw [if_pos h,Zr,List.sum_cons,J8 l,if_pos h]
  ·rw [if_neg h,J8 l,if_neg h];omega
def DR (x:Inst) (l:List Vis) (n j:Nat):Int:=((List.range x.orders.length).map fun i=>if (EL x l n i&&hasO l i)=true then nth (nth x.orders i).load j else 0).sum
theorem Ie {x:Inst} {l:List Vis} (h:SqOk x l) {k j:Nat} (hk:k<l.length):DR x l (k+1) j=if (nth l k).drp=true then DR x l k j-nth (nth x.orders (nth l k).order.toNat).load j else DR x l k j+nth (nth x.orders (nth l k).order.toNat).load j:=by
 obtain ⟨v1,v2⟩:=h.inr _ (Zt hk);obtain ⟨i,hi⟩: ∃i:Nat,(nth l k).order=(i:Int):=⟨(nth l k).order.toNat,Za⟩;have hh:hasO l (i:Int)=true:=W7.2 ⟨_,Zt hk,hi⟩;have h1:=ZcM h hk hi
 have h2:EL x l (k+1) i= !(nth l k).drp:=by simp_all [FZ]
 unfold DR
 rw [uE (f:=fun i=>if (EL x l (k+1) i&&hasO l i)=true then nth (nth x.orders i).load j else 0) (g:=fun i=>if (EL x l k i&&hasO l i)=true then nth (nth x.orders i).load j else 0) (i:=i) (fun q hq=>by
  have:EL x l (k+1) q=EL x l k q:=by rw [FZ hk,if_neg Za]
  grind) x.orders.length Za]
 grind
def Wd (x:Inst) (l:List Vis) (n:Nat):List Int:=(List.range (dimsOf x.types).toNat).map fun j=>DR x l n j
def E4 (a b:List Int):List Int:=(List.range a.length).map fun j=>nth a j+nth b j
def uB (a b:List Int):List Int:=(List.range a.length).map fun j=>nth a j-nth b j
theorem E5 {x:Inst} {l:List Vis} {n:Nat} :(Wd x l n).length=(dimsOf x.types).toNat:=by simp [Wd]
theorem KP {f:Nat->Int} {n j:Nat} (h:j<n):nth ((List.range n).map f) j=f j:=by
 grind [Zh]
theorem S9 {x:Inst} {l:List Vis} (h:SqOk x l) {k:Nat} (hk:k<l.length):Wd x l (k+1)=if (nth l k).drp=true then uB (Wd x l k) (nth x.orders (nth l k).order.toNat).load else E4 (Wd x l k) (nth x.orders (nth l k).order.toNat).load:=by
 have key: ∀g:Nat->Int,(∀j,j<(dimsOf x.types).toNat->DR x l (k+1) j=g j)->Wd x l (k+1)=(List.range (dimsOf x.types).toNat).map g:=fun g hg =>
  W1 fun j hj=>hg j (ZL.1 hj)
 split
 ·simp_all [uB,Ie,Wd,KP]
 simp_all [E4,Ie,Wd,KP]
set_option maxRecDepth 8000
section
variable {σ : Type}
def A9 (nx:List Vis->List Vis):Nat->List Vis->List (List Vis)
 | 0,l=> [l]
 | f+1,l=>if nx l= [] then [l] else (nx l).flatMap fun v=>A9 nx f (l++ [v])
def lvW (nx:List Vis->List Vis) (go:σ->Vis->σ) (emp:σ->Bool):Nat->List Vis->σ->List (List Vis)
 | 0,l,_=> [l]
 | f+1,l,s=>(nx l).flatMap fun v=>if emp (go s v)=true then [] else lvW nx go emp f (l++ [v]) (go s v)
theorem Sb {nx:List Vis->List Vis} : ∀(f:Nat) (l m:List Vis),m∈A9 nx f l-> ∃r,m=l++r
 | 0,l,m,h=>by simp_all [A9]
 | f+1,l,m,h=>by
  rw [A9] at h
  split at h
  ·simp_all
  ·obtain ⟨v,_,h⟩:=XU.1 h;obtain ⟨r,rfl⟩:=Sb f _ m h;simp
theorem Uw {α β:Type} {p:β->Bool} {g:α->List β} : ∀l:List α,(l.flatMap g).filter p=l.flatMap fun a=>(g a).filter p
 | []=>rfl
 | a::l=>by rw [Qa,Qa,List.filter_append,Uw l]
theorem B8 {α β:Type} {g h:α->List β} : ∀ {l:List α},(∀a∈l,g a=h a)->l.flatMap g=l.flatMap h
 | [],_=>rfl
 | a::l,e=>by rw [Qa,Qa,e a Zb,B8 fun b hb=>e b (Yr _ hb)]
theorem wJ {nx:List Vis->List Vis} {go:σ->Vis->σ} {emp:σ->Bool} {ok:List Vis->Bool} {G:List Vis->Prop} {R:List Vis->σ->Prop} {tot:Nat}
  (hG: ∀l v,G l->v∈nx l->G (l++ [v])) (hR: ∀l s v,G l->R l s->v∈nx l->R (l++ [v]) (go s v)) (hE: ∀l s,G l->R l s->emp s=true-> ∀r,ok (l++r)=false)
  (hN: ∀l,G l->l.length<tot->nx l≠ []): ∀(f:Nat) (l:List Vis) (s:σ),G l->R l s->l.length+f=tot->(A9 nx f l).filter ok=(lvW nx go emp f l s).filter ok
 | 0,l,s,_,_,_=>rfl
 | f+1,l,s,hl,hs,ht=>by
  rw [A9,lvW,if_neg (hN l hl Za),Uw,Uw];refine B8 fun v hv=> ?_;have h1:=hG l v hl hv;have h2:=hR l s v hl hs hv
  split
  ·rename_i he;rw [List.filter_nil,List.filter_eq_nil_iff];intro m hm;obtain ⟨r,rfl⟩:=Sb f _ m hm
   grind
  ·exact wJ hG hR hE hN f _ _ h1 h2 (by simp;omega)
def XF (ok:List Vis->Bool) (col:List Vis->Col) (better:Col->Col->Bool) (b:Col×Bool) (l:List Vis):Col×Bool:=if ok l=true/\(b.2=false\/better (col l) b.1=true) then (col l,true) else b
theorem QJ {ok:List Vis->Bool} {col:List Vis->Col} {better:Col->Col->Bool} : ∀(L:List (List Vis)) (b:Col×Bool),L.foldl (XF ok col better) b=(L.filter ok).foldl (XF ok col better) b
 | [],b=>rfl
 | l::L,b=>by
  rw [XP,Cv]
  split
  ·rw [XP];exact QJ L _
  ·rename_i h;rw [XF,if_neg (fun g=>h g.1)];exact QJ L b
theorem GF {ok:List Vis->Bool} {col:List Vis->Col} {better:Col->Col->Bool} : ∀(L:List (List Vis)) (c c':Col),(L.foldl (XF ok col better) (c,false)).2=(L.foldl (XF ok col better) (c',false)).2/\((L.foldl (XF ok col better) (c,false)).2=true->(L.foldl (XF ok col better) (c,false)).1=(L.foldl (XF ok col better) (c',false)).1)
 | [],c,c'=>⟨rfl,fun h=>by cases h⟩
 | l::L,c,c'=>by
  rw [XP,XP]
  by_cases h:ok l=true
  ·rw [XF,if_pos ⟨h,.inl rfl⟩,XF,if_pos ⟨h,.inl rfl⟩];simp
  ·rw [XF,if_neg (fun g=>h g.1),XF,if_neg (fun g=>h g.1)];exact GF L c c'
end
set_option maxHeartbeats 8000000
def Q7 (l:List Pt) (t:Int) (i:Nat):Bool:=decide ((nth l i).t<=t)&&decide (t<(nth l (i+1)).t)
def Hb (p q:Pt) (t:Int):Int:=p.a+((t-p.t)*(q.a-p.a)+q.t-p.t-1) / (q.t-p.t)
def JB (l:List Pt) (t:Int):Int:=match (List.range (l.length-1)).find? (Q7 l t) with
 | some i=>Hb (nth l i) (nth l (i+1)) t
 | none=>if (nth l 0).t<t then t+(nth l (l.length-1)).a-(nth l (l.length-1)).t else t+(nth l 0).a-(nth l 0).t
theorem IF {l:List Pt} {t:Int} {i:Nat} (hi:i+1<l.length) (hno: ∀j,j<i->Q7 l t j=false) (h:Q7 l t i=true):JB l t=Hb (nth l i) (nth l (i+1)) t:=by
 have:(List.range (l.length-1)).find? (Q7 l t)=some i:=by
  grind [Ex]
 rw [JB,this]
theorem Es {l:List Pt} {t:Int} (hno: ∀j,j+1<l.length->Q7 l t j=false):JB l t=if (nth l 0).t<t then t+(nth l (l.length-1)).a-(nth l (l.length-1)).t else t+(nth l 0).a-(nth l 0).t:=by
 grind [JB]
theorem Gk {p q:Pt} {t:Int} (h1:p.t<=t) (h2:t<q.t) (hp:0<=p.t) (hq:q.t<=4096) (ha:p.a<=q.a) (hpa:0<=p.a) (hqa:q.a<=8192):0<=(t-p.t)*(q.a-p.a)/\(t-p.t)*(q.a-p.a)<=33554432:=by
 refine ⟨UC Za Za,?_⟩;have:(t-p.t)*(q.a-p.a)<=4096*8192:=VJ Za Za Za Za;omega
theorem OJ (l:List Pt) (c:Bool) (t:Int) (hl:W9 l) (ht:0<=t/\t<=1073741824):PC 285 [.p (.list c (l.map Hq)),.p (.int .i64 t)] (.int .i64 (JB l t)):=by
 obtain ⟨⟨hl1,hl2⟩,hpt⟩:=hl;refine Zd Tryz.func285 rfl Zcm ?_;simp (disch:=omega) only [Tryz.f285,go_sem,seval];refine ((fQ l c Za).frozenE).useV fun m hm=>Zc ?_
 have hm0:m.length=0:=by rw [hm.emp.2 ⟨⟨hl1,hl2⟩,hpt⟩];rfl
 have e1: ¬t<0:=Za
 have e2: ¬ 1073741824<t:=Za
 simp (disch:=omega) only [hm0,e1,e2,go_sem,seval];refine Zm [0,1] (fun k:Nat=> [(5,.p (.int .i64 k))]) (fun _=> []) (fun k=>k<l.length/\ ∀j,j<k->Q7 l t j=false) (fun k=>l.length-k) 0 (by simp;omega) (Weak.mk ?_) ?_
 ·simp (disch:=omega) only [go_sem,seval,↓reduceIte]
 ·rintro k ⟨hk,hno⟩;refine Zc ?_;refine cD ?_ ?_<;>intro h<;>simp (disch:=omega) only [Sh.out h,go_sem,seval,↓reduceIte]
  ·have hk2:k+1<l.length:=Za
   obtain ⟨⟨p1,p2,p3,p4⟩,_⟩:=hpt k hk;obtain ⟨⟨q1,q2,q3,q4⟩,q5⟩:=hpt (k+1) hk2;obtain ⟨r1,r2⟩:=q5 Za;rw [Nat.add_sub_cancel] at r1 r2;refine gT ?_ ?_<;>intro h2<;>simp (disch:=omega) only [Sh.out h2,go_sem,seval,↓reduceIte]
   ·refine cD ?_ ?_<;>intro h3<;>simp (disch:=omega) only [Sh.out h3,go_sem,seval,↓reduceIte]
    ·have hsg:Q7 l t k=true:=by simp [Q7,h2,h3]
     rw [IF hk2 hno hsg];obtain ⟨s1,s2⟩:=Gk h2 h3 p1 q2 r2 Za Za;have d1:0<=((t-(nth l k).t)*((nth l (k+1)).a-(nth l k).a)+(nth l (k+1)).t-(nth l k).t-1) / ((nth l (k+1)).t-(nth l k).t):=Int.ediv_nonneg Za Za;have d2:((t-(nth l k).t)*((nth l (k+1)).a-(nth l k).a)+(nth l (k+1)).t-(nth l k).t-1) / ((nth l (k+1)).t-(nth l k).t)<=33558528:=Int.le_trans (Int.ediv_le_self _ Za) Za
     have d3: ¬(nth l (k+1)).t-(nth l k).t=0:=Za
     simp only [Hb];refine Xo ?_;simp (disch:=omega) only [go_sem,seval,↓reduceIte]
    ·have hsg:Q7 l t k=false:=by simp [Q7,h3]
     exact ⟨k+1,⟨Za,Zs.2 ⟨hno,hsg⟩⟩,Za,wk⟩
   ·have hsg:Q7 l t k=false:=by simp [Q7,h2]
    exact ⟨k+1,⟨Za,Zs.2 ⟨hno,hsg⟩⟩,Za,wk⟩
  ·have hkl:k+1=l.length:=Za
   rw [Es (fun j hj=>hno j Za)];obtain ⟨⟨p1,p2,p3,p4⟩,_⟩:=hpt 0 Za;obtain ⟨⟨q1,q2,q3,q4⟩,_⟩:=hpt (l.length-1) Za
   have i1:((l.length:Int)-1).toNat=l.length-1:=Za
   refine cD ?_ ?_<;>intro h2<;>simp (disch:=omega) only [Sh.out h2,go_sem,seval,↓reduceIte]
theorem ZY {α:Type} [Inhabited α] {l:List α} {i:Nat} (h:i<l.length):nth l i∈l:=by grind [Zh]
def oV (a:Arc):Prop:=W9 a.travel/\a.slow.length<=16/\ ∀p∈a.slow,0<=p.t/\p.t<=4096/\0<=p.a/\p.a<=4096
def Ki (l:List Pt) (t:Int) (k:Nat):Int:=(l.take k).foldl (fun s p=>if p.t<=t then s+p.a else s) 0
def IE (a:Arc) (t:Int):Int:=JB a.travel t+Ki a.slow t a.slow.length
theorem BG {l:List Pt} {t:Int} {k:Nat} (h:k<l.length):Ki l t (k+1)=if (nth l k).t<=t then Ki l t k+(nth l k).a else Ki l t k:=by
 grind [Ki,Yb,Zh]
theorem Ju {l:List Pt} {t:Int} (hl: ∀p∈l,0<=p.a/\p.a<=4096): ∀k,k<=l.length->0<=Ki l t k/\Ki l t k<=4096*k
 | 0,_=>by simp [Ki]
 | k+1,h=>by
  have ih:=Ju (t:=t) hl k Za
  grind [ZY,BG]
theorem Fc {l:List Pt} {t:Int} (hl:W9 l) (ht:0<=t/\t<=1073741824):0<=JB l t/\JB l t<=1107304448:=by
 obtain ⟨⟨hl1,hl2⟩,hpt⟩:=hl;unfold JB
 split
 ·rename_i i hi;have hm:=QY hi;have hs:=Qy hi;simp at hm;simp only [Q7,ZB,Zq] at hs;obtain ⟨⟨p1,p2,p3,p4⟩,_⟩:=hpt i Za;obtain ⟨⟨q1,q2,q3,q4⟩,q5⟩:=hpt (i+1) Za;obtain ⟨r1,r2⟩:=q5 Za;rw [Nat.add_sub_cancel] at r1 r2;obtain ⟨s1,s2⟩:=Gk hs.1 hs.2 p1 q2 r2 Za Za;have d1:0<=((t-(nth l i).t)*((nth l (i+1)).a-(nth l i).a)+(nth l (i+1)).t-(nth l i).t-1) / ((nth l (i+1)).t-(nth l i).t):=Int.ediv_nonneg Za Za;have d2:((t-(nth l i).t)*((nth l (i+1)).a-(nth l i).a)+(nth l (i+1)).t-(nth l i).t-1) / ((nth l (i+1)).t-(nth l i).t)<=33558528:=Int.le_trans (Int.ediv_le_self _ Za) Za
  unfold Hb;omega
 ·obtain ⟨⟨p1,p2,p3,p4⟩,_⟩:=hpt 0 Za;obtain ⟨⟨q1,q2,q3,q4⟩,_⟩:=hpt (l.length-1) Za;omega
theorem OK (a:Arc) (t:Int) (ha:oV a) (ht:0<=t/\t<=1073741824):PC 267 [.p (VW a),.p (.int .i64 t)] (.int .i64 (IE a t)):=by
 obtain ⟨h1,h2,h3⟩:=ha;have hr:=Fc h1 ht;have hs:=Ju (t:=t) (fun p hp=>(h3 p hp).2.2);refine Zd Tryz.func267 rfl Zb4 ?_;simp (disch:=omega) only [Tryz.f267,go_sem,seval];refine (OJ a.travel a.travel_c t h1 ht).use (Zc ?_);refine Zm [1,2] (fun k:Nat=> [(5,.p (.int .i64 (JB a.travel t+Ki a.slow t k))),(6,.p (.int .i64 k))]) (fun _=> [Vb a]) (fun k=>k<=a.slow.length) (fun k=>a.slow.length-k) 0 Zb (Weak.mk ?_) ?_
 ·simp (disch:=omega) only [Vb,Ki,UD,go_sem,seval];simp
 ·intro k hk;have hsk:=hs k hk;simp (disch:=omega) only [Vb,go_sem,seval];refine cD ?_ ?_<;>intro h<;>simp (disch:=omega) only [Sh.out h,go_sem,seval,↓reduceIte]
  ·have hk2:k<a.slow.length:=Za
   have hp:=h3 _ (ZY hk2);have hsn:=BG (t:=t) hk2;refine ZO ?_ ?_<;>intro h4
   ·rw [if_pos h4] at hsn;exact ⟨k+1,Za,Za,Weak.mk (by simp (disch:=omega) only [hsn,Int.add_assoc,go_sem,seval])⟩
   ·rw [if_neg h4] at hsn;exact ⟨k+1,Za,Za,Weak.mk (by simp (disch:=omega) only [hsn,go_sem,seval])⟩
  grind [IE]
theorem Oh {g:FuncId} {args:List V} {a b c:PV} {H:List AM.Obj} {K:V->List AM.Obj->Prop} (h:ACalls Tryz.prog g args [] fun x H'=>x= .tup [.p a,.p b,.p c]/\H'= []) (k:K (.tup [.p a,.p b,.p c]) H) (ha:Xn 0 args=true:=by rfl):ACalls Tryz.prog g args H K :=
 (h.behind ha H).mono fun x H' hq=>by
  obtain ⟨y,H1,⟨rfl,rfl⟩,rfl,rfl⟩:=hq
  grind [shV,shVs]
theorem Yg {g:FuncId} {args:List V} {a b:PV} {H:List AM.Obj} {K:V->List AM.Obj->Prop} (h:ACalls Tryz.prog g args [] fun x H'=>x= .tup [.p a,.p b]/\H'= []) (k:K (.tup [.p a,.p b]) H) (ha:Xn 0 args=true:=by rfl):ACalls Tryz.prog g args H K :=
 (h.behind ha H).mono fun x H' hq=>by
  obtain ⟨y,H1,⟨rfl,rfl⟩,rfl,rfl⟩:=hq
  grind [shV,shVs]
def KS (n:Net) (p:Int):Bool:=decide (0<=p)&&decide (p<(n.places.length:Int))
theorem HW (n:Net) (p:Int) (hn:n.places.length<=1048576):PC 265 [.p (B4 n),.p (.int .i64 p)] (.bool (KS n p)):=by
 refine Zd Tryz.func265 rfl Zb2 ?_;simp (disch:=omega) only [Tryz.f265,go_sem,seval];refine gT ?_ ?_<;>intro h<;>simp (disch:=omega) only [Sh.out h,go_sem,seval,↓reduceIte]
 ·simp [KS,h]
 ·simp [KS,h]
def VA (pr f t:Int) (a:Arc):Bool:=decide (a.src=f)&&decide (a.dst=t)&&decide (a.prof=pr)
def Ud : Arc:=⟨0,0,0,0,true,[],true,[]⟩
def WY (n:Net) (pr f t:Int):Arc×Bool:=match n.arcs.find? (VA pr f t) with | some a=>(a,true) | none=>(Ud,false)
theorem MQ {n:Net} {pr f t:Int} {k:Nat} (hk:k<n.arcs.length) (hno: ∀j,j<k->VA pr f t (nth n.arcs j)=false) (h:VA pr f t (nth n.arcs k)=true):WY n pr f t=(nth n.arcs k,true):=by
 have:n.arcs.find? (VA pr f t)=some (nth n.arcs k):=by
  grind [Ex,Zh]
 rw [WY,this]
theorem MR {n:Net} {pr f t:Int} (hno: ∀j,j<n.arcs.length->VA pr f t (nth n.arcs j)=false):WY n pr f t=(Ud,false):=by
 have:n.arcs.find? (VA pr f t)=none:=by
  rw [Aq];intro a ha;obtain ⟨j,hj,rfl⟩:=ZT.1 ha
  grind [Zh]
 rw [WY,this]
theorem gU (n:Net) (pr f t:Int) (hn:n.arcs.length<=1048576):PT 266 [.p (B4 n),.p (.int .i64 pr),.p (.int .i64 f),.p (.int .i64 t)] [.p (VW (WY n pr f t).1),.p (.bool (WY n pr f t).2)]:=by
 refine Zf [] Tryz.func266 rfl Zb3 ?_;simp (disch:=omega) only [Tryz.f266,go_sem,seval];refine Zm [1,2,3,4,8] (fun k:Nat=> [(10,.p (.int .i64 k))]) (fun _=>Z7 n++ [Vb Ud]) (fun k=>k<=n.arcs.length/\ ∀j,j<k->VA pr f t (nth n.arcs j)=false) (fun k=>n.arcs.length-k) 0 Zb (Weak.mk ?_) ?_
 ·simp (disch:=omega) only [Z7,Vb,Ud,Zn,ZK,Zy,go_sem,seval]
 ·rintro k ⟨hk,hno⟩;simp (disch:=omega) only [Z7,Vb,Ud,Zn,ZK,Zy,go_sem,seval];refine cD ?_ ?_<;>intro h<;>simp (disch:=omega) only [Sh.out h,go_sem,seval,↓reduceIte]
  ·have hk2:k<n.arcs.length:=Za
   have nx:VA pr f t (nth n.arcs k)=false-> ∀j,j<k+1->VA pr f t (nth n.arcs j)=false:=fun h=>Zs.2 ⟨hno,h⟩;refine QS ?_ ?_<;>intro h1
   ·refine QS ?_ ?_<;>intro h2
    ·refine ZO ?_ ?_<;>intro h3
     ·have e:=MQ hk2 hno (by grind [VA]);rw [e];exact we
     ·exact ⟨k+1,⟨Za,nx (by simp [VA,h3])⟩,Za,wk⟩
    ·exact ⟨k+1,⟨Za,nx (by simp [VA,h2])⟩,Za,wk⟩
   ·exact ⟨k+1,⟨Za,nx (by simp [VA,h1])⟩,Za,wk⟩
  ·have hkn:k=n.arcs.length:=Za
   subst hkn;rw [MR hno];exact we (by simp (disch:=omega) only [Ud,Zn,go_sem,seval])
def WZ (n:Net) (pr f t τ:Int):Int×Int×Int :=
 if (KS n f&&KS n t)=false then (0,0,11) else if f=t then (τ,0,0) else if (WY n pr f t).2=true then (IE (WY n pr f t).1 τ,(WY n pr f t).1.miles,0) else (0,0,12)
def netR (n:Net):Prop:=n.places.length<=1048576/\n.arcs.length<=1048576/\ ∀a∈n.arcs,oV a
theorem Ah {n:Net} {pr f t:Int} (h:(WY n pr f t).2=true):(WY n pr f t).1∈n.arcs:=by
 grind [WY]
theorem zS (n:Net) (pr f t τ:Int) (hn:netR n) (hτ:0<=τ/\τ<=1073741824):PT 243 [.p (B4 n),.p (.int .i64 pr),.p (.int .i64 f),.p (.int .i64 t),.p (.int .i64 τ)] [.p (.int .i64 (WZ n pr f t τ).1),.p (.int .i64 (WZ n pr f t τ).2.1),.p (.int .i64 (WZ n pr f t τ).2.2)]:=by
 refine Zf [] Tryz.func243 rfl ZbH ?_;simp (disch:=omega) only [Tryz.f243,go_sem,seval];refine (HW n f hn.1).use (Zc ?_);refine gF ?_ ?_<;>intro h1<;>simp (disch:=omega) only [Sh.out h1,go_sem,seval,↓reduceIte]
 ·have e:WZ n pr f t τ=(0,0,11):=by grind [WZ]
  rw [e];exact we
 ·simp only [XM] at h1;refine (HW n t hn.1).use (Zc ?_);refine cD ?_ ?_<;>intro h2<;>simp (disch:=omega) only [Sh.out h2,go_sem,seval]
  ·have e:WZ n pr f t τ=(0,0,11):=by grind [WZ]
   rw [e];exact we
  ·simp only [XM] at h2;refine cD ?_ ?_<;>intro h3<;>simp (disch:=omega) only [Sh.out h3,go_sem,seval,↓reduceIte]
   ·have e:WZ n pr f t τ=(τ,0,0):=by grind [WZ]
    rw [e];exact we
   ·have cf:=gU n pr f t hn.2.1;have hm:= @Ah n pr f t
    have e0:WZ n pr f t τ=if (WY n pr f t).2=true then (IE (WY n pr f t).1 τ,(WY n pr f t).1.miles,0) else (0,0,12):=by grind [WZ]
    rw [e0];generalize WY n pr f t=A at cf hm ⊢;obtain ⟨a,b⟩:=A;simp only at cf hm ⊢;refine Yg cf (Zc ?_);refine cD ?_ ?_<;>intro h4<;>simp (disch:=omega) only [Sh.out h4,go_sem,seval]
    ·have hb:b=false:=by grind
     subst hb;exact we (by simp (disch:=omega) only [go_sem,seval,↓reduceIte])
    ·have hb:b=true:=by grind
     subst hb;refine Xo (Zc ?_);refine Zo (OK a τ (hn.2.2 a (hm rfl)) hτ) (Zc ?_);exact we
theorem uR (x:Inst) (pr f t τ:Int) (hn:netR x.net) (hτ:0<=τ/\τ<=1073741824):PT 228 [.p (Zv x),.p (.int .i64 pr),.p (.int .i64 f),.p (.int .i64 t),.p (.int .i64 τ)] [.p (.int .i64 (WZ x.net pr f t τ).1),.p (.int .i64 (WZ x.net pr f t τ).2.1),.p (.bool (decide ((WZ x.net pr f t τ).2.2=0)))]:=by
 refine Zf [] Tryz.func228 rfl Zbt ?_;simp (disch:=omega) only [Tryz.f228,go_sem,seval];refine Oh (zS x.net pr f t τ hn hτ) (Zc ?_);exact we
structure StD where
 place:Int
 time:Int
 driven:Int
 miles:Int
def gJ (s:StD):PV:= .agg [.int .i64 s.place,.int .i64 s.time,.int .i64 s.driven,.int .i64 s.miles]
@[go_sem] theorem Zlj (s:StD):gJ s= .agg [.int .i64 s.place,.int .i64 s.time,.int .i64 s.driven,.int .i64 s.miles]:=Zl rfl rfl
def Gc (t:Typ) (s:StD) (b:Bool):StD:=if b=true then { s with time:=s.time+t.rest,driven:=0 } else s
theorem NG (t:Typ) (s:StD) (b:Bool) (hb: -1099511627776<=s.time/\s.time<=1099511627776/\ -1099511627776<=t.rest/\t.rest<=1099511627776):PC 215 [.p (X4 t),.p (gJ s),.p (.bool b)] (gJ (Gc t s b)):=by
 refine Zd Tryz.func215 rfl Zbk ?_
 cases b with
 | true=>simp (disch:=omega) only [Tryz.f215,Gc,go_sem,seval,↓reduceIte]
 | false=>simp (disch:=omega) only [Tryz.f215,Gc,YU,go_sem,seval,↓reduceIte]
def Jv (x:Inst) (t:Typ) (s:StD) (to cl late:Int):StD×Int :=
 if ¬(WZ x.net t.prof s.place to s.time).2.2=0 then (s,12)
 else if cl<(WZ x.net t.prof s.place to s.time).1 then (s,late)
 else if t.drive<s.driven+(WZ x.net t.prof s.place to s.time).1-s.time then (s,16)
 else (⟨to,(WZ x.net t.prof s.place to s.time).1,s.driven+(WZ x.net t.prof s.place to s.time).1-s.time,s.miles+(WZ x.net t.prof s.place to s.time).2.1⟩,0)
def dG (n:Int):Prop:= -1099511627776<=n/\n<=1099511627776
theorem N7 (x:Inst) (t:Typ) (s:StD) (to cl late:Int) (hn:netR x.net) (hs:0<=s.time/\s.time<=1073741824) (hd:dG s.driven) (hm:dG s.miles) (hg:dG (WZ x.net t.prof s.place to s.time).1/\dG (WZ x.net t.prof s.place to s.time).2.1) :
  PT 216 [.p (Zv x),.p (X4 t),.p (gJ s),.p (.int .i64 to),.p (.int .i64 cl),.p (.int .i64 late)] [.p (gJ (Jv x t s to cl late).1),.p (.int .i64 (Jv x t s to cl late).2)]:=by
 have cw:=uR x t.prof s.place to s.time hn hs;unfold Jv;generalize WZ x.net t.prof s.place to s.time=g at cw hg ⊢;obtain ⟨a,m,e⟩:=g;unfold dG at hd hm hg;simp only at cw hg ⊢;refine Zf [] Tryz.func216 rfl Zbl ?_;simp (disch:=omega) only [Tryz.f216,go_sem,seval];refine Oh cw (Zc ?_);refine cD ?_ ?_<;>intro h1<;>simp (disch:=omega) only [Sh.out h1,go_sem,seval,↓reduceIte]
 ·exact we
 ·rw [if_neg h1];refine cD ?_ ?_<;>intro h2<;>simp (disch:=omega) only [Sh.out h2,go_sem,seval,↓reduceIte]
  ·exact we
  ·rw [if_neg h2];refine cD ?_ ?_<;>intro h3<;>simp (disch:=omega) only [Sh.out h3,go_sem,seval,↓reduceIte]
   ·exact we
   ·exact we
structure Lab where
 ready:Int
 since:Int
 she:She
 deriving Inhabited
def zShe : She:=⟨false,0,true,[],0,0⟩
def WX : Lab:=⟨0,0,zShe⟩
def ZJ (t:Typ) (L:Lab) (b:Bool):Int:=if b=true then L.ready+t.rest else L.ready
def WU (L:Lab) (b:Bool):Int:=if b=true then 0 else L.since
def Sd (l:List Tim) (k:Nat) (d:Int) (b:Bool):List Tim:=l.set k { nth l k with dep:=d,rest:=b }
def XZ (k:Nat) (d:Int) (b:Bool) (s:She):She:=if k=0 then { s with rest:=b,dep:=d } else { s with times:=Sd s.times (k-1) d b }
def V9 (t:Typ) (sp:List Stp) (k:Nat):Int:=if k=0 then t.src else (nth sp (k-1)).place
def Ow (t:Typ) (sp:List Stp) (k:Nat):Int:=if k=sp.length then t.dst else (nth sp k).place
def Y1 (x:Inst) (t:Typ) (sp:List Stp) (k:Nat) (d:Int):Int×Int×Int:=WZ x.net t.prof (V9 t sp k) (Ow t sp k) d
def WE (t:Typ) (sp:List Stp) (k:Nat) (g:Int×Int×Int) (d s:Int) (h:She):Lab×Int :=
 if ¬g.2.2=0 then (WX,12)
 else if k=sp.length then
  if t.cls<g.1 then (WX,15) else if t.drive<s+g.1-d then (WX,16)
  else (⟨g.1,s+g.1-d,{ h with fin:=g.1,miles:=h.miles+g.2.1 }⟩,0)
 else if (nth sp k).cls<max g.1 (nth sp k).opn then (WX,14)
 else if t.drive<s+g.1-d then (WX,16)
 else (⟨max g.1 (nth sp k).opn+(nth sp k).serv,s+g.1-d,{ h with times_c:=false,times:=h.times++ [⟨g.1,max g.1 (nth sp k).opn,0,false⟩],miles:=h.miles+g.2.1 }⟩,0)
def nxtF (x:Inst) (t:Typ) (sp:List Stp) (k:Nat) (L:Lab) (b:Bool):Lab×Int :=
 WE t sp k (Y1 x t sp k (ZJ t L b)) (ZJ t L b) (WU L b) (XZ k (ZJ t L b) b L.she)
def XA (x:Inst) (t:Typ) (sp:List Stp) (k:Nat) (L:Lab) (b:Bool):Option Lab:=if (nxtF x t sp k L b).2=0 then some (nxtF x t sp k L b).1 else none
def Xf (x:Inst) (t:Typ) (sp:List Stp):Nat->Lab->List Bool->Lab×Int
 | _,L,[]=>(L,0)
 | k,L,b::bs=>if (nxtF x t sp k L b).2=0 then Xf x t sp (k+1) (nxtF x t sp k L b).1 bs else (WX,(nxtF x t sp k L b).2)
def labF (t:Typ) (st:Int):Lab:=⟨max t.opn st,0,zShe⟩
theorem Yy {x:Inst} {t:Typ} {sp:List Stp} : ∀(bs:List Bool) (k:Nat) (L:Lab),Y9 (XA x t sp) k L bs=if (Xf x t sp k L bs).2=0 then some (Xf x t sp k L bs).1 else none
 | [],k,L=>by rfl
 | b::bs,k,L=>by
  rw [Y9,Xf,XA]
  by_cases h:(nxtF x t sp k L b).2=0
  ·simp only [h,if_true];exact Yy bs (k+1) _
  ·simp [h]
structure TrpOk (x:Inst) (t:Typ) (sp:List Stp):Prop where
 net:netR x.net
 mil: ∀a∈x.net.arcs,0<=a.miles/\a.miles<=10000
 opn:0<=t.opn/\t.opn<=t.cls/\t.cls<=4096
 drv:1<=t.drive/\t.drive<=4096
 rst:0<=t.rest/\t.rest<=4096
 stp: ∀s∈sp,0<=s.opn/\s.opn<=s.cls/\s.cls<=4096/\0<=s.serv/\s.serv<=4096
 len:sp.length<=20
structure LabR (k:Nat) (L:Lab):Prop where
 rdy:0<=L.ready/\L.ready<=8192
 snc: -(12288*(k:Int))<=L.since/\L.since<=4096
 mil:0<=L.she.miles/\L.she.miles<=10000*(k:Int)
theorem I7 {n:Net} {pr f t τ:Int} (hn:netR n) (hm: ∀a∈n.arcs,0<=a.miles/\a.miles<=10000) (hτ:0<=τ/\τ<=1073741824):(0<=(WZ n pr f t τ).1/\(WZ n pr f t τ).1<=1107369984)/\(0<=(WZ n pr f t τ).2.1/\(WZ n pr f t τ).2.1<=10000):=by
 unfold WZ
 split
 ·simp
 ·split
  ·grind
  ·split
   ·rename_i h;have hA:=Ah h;have h1:=Fc (hn.2.2 _ hA).1 hτ;have h2:=Ju (t:=τ) (fun p hp=>((hn.2.2 _ hA).2.2 p hp).2.2) _ (ZA _);have h3:=(hn.2.2 _ hA).2.1
    grind [IE]
   ·simp
theorem Ku {x t sp k L} (h:TrpOk x t sp) (hl:LabR k L) (b:Bool):0<=ZJ t L b/\ZJ t L b<=12288:=by
 have:=h.rst;have:=hl.rdy
 grind [ZJ]
theorem Gz {k L} (hl:LabR k L) (b:Bool): -(12288*(k:Int))<=WU L b/\WU L b<=4096:=by
 have:=hl.snc
 grind [WU]
theorem I6 {x t sp k L} (h:TrpOk x t sp) (hl:LabR k L) (b:Bool):(0<=(Y1 x t sp k (ZJ t L b)).1/\(Y1 x t sp k (ZJ t L b)).1<=1107369984)/\(0<=(Y1 x t sp k (ZJ t L b)).2.1/\(Y1 x t sp k (ZJ t L b)).2.1<=10000):=by
 have:=Ku h hl b;exact I7 h.net h.mil Za
theorem KJ {k d b s} :(XZ k d b s).miles=s.miles:=by grind [XZ]
theorem HO {k d b s} :(XZ k d b s).fin=s.fin:=by grind [XZ]
theorem AG {k d b s} :(XZ k d b s).times.length=s.times.length:=by grind [XZ,Sd]
theorem Ls {x t sp k L b} (h:TrpOk x t sp) (hk:k<=sp.length) (hl:LabR k L) (he:(nxtF x t sp k L b).2=0):LabR (k+1) (nxtF x t sp k L b).1:=by
 have h1:=Ku h hl b;have h2:=Gz hl b;obtain ⟨h3,h4⟩:=I6 h hl b;have h5:=hl.mil;have h6:=h.opn;have h7:=h.drv;have hm:(XZ k (ZJ t L b) b L.she).miles=L.she.miles:=KJ;unfold nxtF at he ⊢
 generalize Y1 x t sp k (ZJ t L b)=g at *
 generalize ZJ t L b=d at *
 generalize WU L b=s at *
 generalize XZ k d b L.she=m at *
 unfold WE at he ⊢
 split at he
 ·simp at he
 ·rename_i c1;rw [if_neg c1]
  split at he
  ·rename_i c2;rw [if_pos c2]
   split at he
   ·simp at he
   ·rename_i c3;rw [if_neg c3]
    split at he
    ·simp at he
    ·rename_i c4;rw [if_neg c4];exact ⟨by grind,by grind,by grind⟩
  ·rename_i c2;rw [if_neg c2];have h8:=h.stp _ (ZY (show k<sp.length by omega))
   split at he
   ·simp at he
   ·rename_i c3;rw [if_neg c3]
    split at he
    ·simp at he
    ·rename_i c4;rw [if_neg c4];exact ⟨by grind,by grind,by grind⟩
theorem FW {x t sp k L b} (hl:L.she.times.length=k) (he:(nxtF x t sp k L b).2=0) (hk:k<sp.length):(nxtF x t sp k L b).1.she.times.length=k+1:=by
 have hm:(XZ k (ZJ t L b) b L.she).times.length=L.she.times.length:=AG;unfold nxtF at he ⊢
 generalize Y1 x t sp k (ZJ t L b)=g at *
 generalize ZJ t L b=d at *
 generalize WU L b=s at *
 generalize XZ k d b L.she=m at *
 have hk2: ¬k=sp.length:=Za
 unfold WE at he ⊢
 grind
def Xg (m x:Lab):Bool:=decide (m.ready=x.ready)&&decide (m.since<=x.since)
theorem OO {x t sp k} {m y z:Lab} {b:Bool} (hb:Xg m y=true) (hn:XA x t sp k y b=some z): ∃u,XA x t sp k m b=some u/\Xg u z=true:=by
 simp only [Xg,ZB,Zq] at hb;obtain ⟨hb1,hb2⟩:=hb
 have hd:ZJ t m b=ZJ t y b:=by simp [ZJ,hb1]
 have hs:WU m b<=WU y b:=by grind [WU]
 unfold XA at hn ⊢;unfold nxtF at hn ⊢;rw [hd]
 generalize Y1 x t sp k (ZJ t y b)=g at *
 generalize ZJ t y b=d at *
 generalize WU y b=s at *
 generalize WU m b=s2 at *
 generalize XZ k d b y.she=h1 at *
 generalize XZ k d b m.she=h2 at *
 unfold WE at hn ⊢
 by_cases c1:g.2.2=0
 ·by_cases c2:k=sp.length
  ·simp only [c1,c2,not_true,if_true,Yi] at hn ⊢
   by_cases c3:t.cls<g.1
   ·grind
   ·by_cases c4:t.drive<s+g.1-d
    ·grind
    ·have c5: ¬t.drive<s2+g.1-d:=Za
     simp only [c3,c4,Yi,if_true,Qb] at hn;subst hn;refine ⟨_,by simp only [c3,c5,Yi,if_true];rfl,?_⟩;simp [Xg];omega
  ·simp only [c1,c2,not_true,Yi] at hn ⊢
   by_cases c3:(nth sp k).cls<max g.1 (nth sp k).opn
   ·grind
   ·by_cases c4:t.drive<s+g.1-d
    ·grind
    ·have c5: ¬t.drive<s2+g.1-d:=Za
     simp only [c3,c4,Yi,if_true,Qb] at hn;subst hn;refine ⟨_,by simp only [c3,c5,Yi,if_true];rfl,?_⟩;simp [Xg];omega
 grind
def Wf (L:Lab):Int:=L.she.fin
theorem Ns {x t sp} {y z:Lab} {b:Bool} (hn:XA x t sp sp.length y b=some z):z.she.fin=z.ready:=by
 unfold XA nxtF WE at hn
 grind
theorem HI {x t sp} (ch:Nat->List Bool) (L:Lab):W4 Wf none (Ke Xg (XA x t sp) ch (sp.length+1) 0 [L])=W4 Wf none (VO (XA x t sp) ch (sp.length+1) 0 L):=by
 have h:=R5 Wf Xg (XA x t sp) ch (n:=sp.length+1) (Inv:=fun k y=>k=sp.length+1->y.she.fin=y.ready)
  (fun k y b z _ hn hk=>by
   grind [Ns]) (fun k m y b z _ _ hb hn=>OO hb hn)
  (fun m y h1 h2 hb=>by
   simp only [Xg,ZB,Zq] at hb
   rw [Wf,Wf,h1 rfl,h2 rfl];omega) (sp.length+1) 0 [L] Za (fun y _ hk=>Za)
 rw [h];simp
def UJ (r:List Bool) (k:Nat):List Bool:=match r[k]? with | some b=> [b] | none=> [false,true]
theorem RL (r:List Bool) (n:Nat) (hn:r.length<=n): ∀(j k:Nat),k+j=r.length->I1 (UJ r) (n-k) k=(YS (List.replicate (n-r.length) false)).map (r.drop k++ ·)
 | 0,k,h=>by
  have hk:k=r.length:=Za
  subst hk;rw [MO (n:=n) _ _ _ (fun q hq=>by grind [UJ])];simp
 | j+1,k,h=>by
  have e:n-k=(n-(k+1))+1:=Za
  have hlt:k<r.length:=Za
  rw [e,I1,RL r n hn j (k+1) Za]
  have:UJ r k= [r[k]]:=by simp [UJ,hlt]
  rw [this,Qa,List.flatMap_nil,Wp,List.map_map,V4 hlt]
  rfl
theorem Ht (r:List Bool) (n:Nat) (hn:r.length<=n):I1 (UJ r) n 0=(YS (List.replicate (n-r.length) false)).map (r++ ·):=by
 have:=RL r n hn r.length 0 Za
 grind
def XE (r:List Bool) (n:Nat):List (List Bool):=(YS (List.replicate (n-r.length) false)).map (r++ ·)
def YM (r:List Bool) (n:Nat):List Bool:=r++List.replicate (n-r.length) false
def Yn (x:Inst) (t:Typ) (sp:List Stp) (st:Int) (r:List Bool):She×Int :=
 match W4 Wf none ((XE r (sp.length+1)).filterMap (Y9 (XA x t sp) 0 (labF t st))) with
 | some L=>(L.she,0)
 | none=>(zShe,(Xf x t sp 0 (labF t st) (YM r (sp.length+1))).2)
theorem IL {x t sp} {st:Int} {r:List Bool} (hr:r.length<=sp.length+1):Yn x t sp st r=match W4 Wf none (Ke Xg (XA x t sp) (UJ r) (sp.length+1) 0 [labF t st]) with
 | some L=>(L.she,0)
 | none=>(zShe,(Xf x t sp 0 (labF t st) (YM r (sp.length+1))).2):=by
 rw [HI,VO,Ht r _ hr];rfl
theorem NN {x t sp} : ∀(bs:List Bool) (k:Nat) (L:Lab),L.she.times.length=k->k+bs.length=sp.length+1->0<bs.length->(Xf x t sp k L bs).2=0->(Xf x t sp k L bs).1.she.times.length=sp.length
 | [],k,L,h1,h2,h3,h=>by simp at h3
 | b::bs,k,L,h1,h2,_,h=>by
  rw [Xf] at h ⊢
  by_cases h4:(nxtF x t sp k L b).2=0
  ·simp only [h4,if_true] at h ⊢
   cases bs with
   | nil =>
    simp at h2;subst h2;rw [Xf];unfold nxtF at h4 ⊢;unfold WE at h4 ⊢
    split at h4
    ·simp at h4
    ·rename_i c1;rw [if_neg c1];simp only [if_true] at h4 ⊢
     split at h4
     ·simp at h4
     ·rename_i c2;rw [if_neg c2]
      split at h4
      ·simp at h4
      simp_all [if_neg,AG]
   | cons b2 bs =>
    simp at h2;exact NN (b2::bs) (k+1) _ (FW h1 h4 Za) (by simp;omega) Zb h
  grind
theorem bestF_len {x t sp} {st:Int} {r:List Bool} (hr:r.length<=sp.length+1) (h:(Yn x t sp st r).2=0):(Yn x t sp st r).1.times.length=sp.length:=by
 unfold Yn at h ⊢
 cases hf:W4 Wf none ((XE r (sp.length+1)).filterMap (Y9 (XA x t sp) 0 (labF t st))) with
 | none =>
  rw [hf] at h;simp only at h ⊢;exfalso
  have hm:YM r (sp.length+1)∈XE r (sp.length+1):=by
   grind [XE,YM,fromB_next]
  have h2:Y9 (XA x t sp) 0 (labF t st) (YM r (sp.length+1))=some (Xf x t sp 0 (labF t st) (YM r (sp.length+1))).1:=by rw [Yy,if_pos h]
  have h3:(Xf x t sp 0 (labF t st) (YM r (sp.length+1))).1∈(XE r (sp.length+1)).filterMap (Y9 (XA x t sp) 0 (labF t st)):=KH.2 ⟨_,hm,h2⟩;generalize (XE r (sp.length+1)).filterMap (Y9 (XA x t sp) 0 (labF t st))=l at hf h3
  cases l with
  | nil=>simp at h3
  | cons a l =>
   rw [W4] at hf;obtain ⟨z,e,_⟩:=VD Wf l a
   grind
 | some L =>
  simp only;have hm:=fmL_mem _ _ hf;obtain ⟨bs,hbs,hrun⟩:=KH.1 hm;rw [Yy] at hrun
  split at hrun
  ·rename_i h5;simp at hrun;subst hrun;obtain ⟨q,hq,rfl⟩:=XQ.1 hbs;have hql:=fromB_len _ _ hq;simp at hql;exact NN _ 0 _ rfl (by grind) (by grind) h5
  ·cases hrun
where
 fmL_mem: ∀(l:List Lab) (L:Lab),W4 Wf none l=some L->L∈l
 | [],L,h=>by simp [W4] at h
 | a::l,L,h=>by
  rw [W4] at h;exact fmL_mem2 l a L h
 fmL_mem2: ∀(l:List Lab) (a L:Lab),W4 Wf (some a) l=some L->L∈a::l
 | [],a,L,h=>by grind [W4]
 | y::l,a,L,h=>by
  rw [W4] at h
  split at h
  ·have:=fmL_mem2 l y L h;grind
  ·have:=fmL_mem2 l a L h;grind
 fromB_len: ∀(l q:List Bool),q∈YS l->q.length=l.length
 | [],q,h=>by grind [YS]
 | b::bs,q,h=>by
  rw [YS] at h
  split at h
  ·obtain ⟨q',hq,rfl⟩:=XQ.1 h;simp [fromB_len bs q' hq]
  ·rcases Xd.1 h with h | h
   ·obtain ⟨q',hq,rfl⟩:=XQ.1 h;simp [fromB_len bs q' hq]
   ·obtain ⟨q',hq,rfl⟩:=XQ.1 h;simp [fromB_len (List.replicate bs.length false) q' hq]
 termination_by l=>l.length
 decreasing_by all_goals simp
def Xk (x:Inst) (v:Vis):Stp:=if v.drp=true then (nth x.orders v.order.toNat).drp else (nth x.orders v.order.toNat).pick
def ZM (x:Inst) (l:List Vis):List Stp:=l.map (Xk x)
def Yj (t:Typ) (s:Int):Bool:=decide (0<=t.skills)&&decide (0<=s)&&(List.range 63).all fun i=> !s.toNat.testBit i||t.skills.toNat.testBit i
def VX (a c:List Int):Bool:=decide (a.length=c.length)&&(List.range a.length).all fun i=>decide (nth a i<=nth c i)
def Qe (x:Inst) (c:List Int) (l:List Vis):Bool:=(List.range (l.length+1)).all fun n=>VX (Wd x l n) c
def ZE (x:Inst) (r:Rte):Typ:=nth x.types r.typ.toNat
def Ux (l:List Vis) (i:Nat):Bool:= !((l.take i).any fun v=>decide (v.order=(nth l i).order))
def Xq (k t:Int):Bool:=decide (k≠ -1)&&decide (k≠t)
def chgF (x:Inst) (l:List Vis) (t:Int):Nat->Int×Int
 | 0=>(0,0)
 | n+1=>if Ux l n=true then ((chgF x l t n).1+(if Xq (nth x.orders (nth l n).order.toNat).now t=true then 1 else 0),(chgF x l t n).2+(if Xq (nth x.orders (nth l n).order.toNat).last t=true then 1 else 0)) else chgF x l t n
def DK (x:Inst) (r:Rte) (s:She):Sco :=
 ⟨(ZE x r).fixed+(ZE x r).perMile*s.miles+(ZE x r).perTick*(s.fin-(ZE x r).opn),(chgF x r.visits r.typ r.visits.length).1,(chgF x r.visits r.typ r.visits.length).2,(s.fin-(ZE x r).opn).tdiv 64*(s.fin-(ZE x r).opn).tdiv 64⟩
def XX (x:Inst) (r:Rte):Int :=
 if ¬(0<=r.typ/\r.typ<(x.types.length:Int)) then 2
 else if ¬Xj x r.visits=0 then Xj x r.visits
 else if (r.visits.any fun v=> !Yj (ZE x r) (nth x.orders v.order.toNat).skills)=true then 18
 else if Qe x (ZE x r).cap r.visits=false then 17
 else if ¬(0<=r.start/\r.start<=4096/\r.rests.length<=r.visits.length+1) then 2
 else 0
def Xv (x:Inst) (r:Rte):She×Int:=Yn x (ZE x r) (ZM x r.visits) r.start r.rests
def Xw (x:Inst) (r:Rte):Int:=if XX x r=0 then (Xv x r).2 else XX x r
def X7 (x:Inst) (r:Rte):She:=if Xw x r=0 then (Xv x r).1 else zShe
def We (x:Inst) (r:Rte):Sco:=if Xw x r=0 then DK x r (Xv x r).1 else zSco
def Zdv : Stp:=⟨0,0,0,0⟩
def M6 (x:Inst) (v:Vis):Bool:=decide (0<=v.order)&&decide (v.order<(x.orders.length:Int))
def K7 (x:Inst) (v:Vis):Bool:=M6 x v&&decide (0<=(Xk x v).place)
def C4 (x:Inst) (v:Vis):Stp:=if M6 x v=true then Xk x v else Zdv
theorem N8 (x:Inst) (v:Vis) (ho:x.orders.length<=1048576):PT 181 [.p (Zv x),.p (Z9 v)] [.p (Ft (C4 x v)),.p (.bool (K7 x v))]:=by
 refine Zf [] Tryz.func181 rfl Za2 ?_;simp (disch:=omega) only [Tryz.f181,go_sem,seval];refine gF ?_ ?_<;>intro h1<;>simp (disch:=omega) only [Sh.out h1,go_sem,seval,↓reduceIte]
 ·have e:M6 x v=false:=by
   grind [M6]
  simp only [C4,K7,e,Qx,YU,Yi,Zdv];exact we
 ·refine cD ?_ ?_<;>intro h2<;>simp (disch:=omega) only [Sh.out h2,go_sem,seval,↓reduceIte]
  ·have e:M6 x v=false:=by
    grind [M6]
   simp only [C4,K7,e,Qx,YU,Yi,Zdv];exact we
  ·have e:M6 x v=true:=by simp [M6];omega
   have hi:v.order.toNat<x.orders.length:=Za
   refine cD ?_ ?_<;>intro hd<;>simp (disch:=omega) only [Sh.out hd,go_sem,seval,↓reduceIte]
   ·have hG:C4 x v=(nth x.orders v.order.toNat).drp:=by simp [C4,e,Xk,hd]
    have hV:K7 x v=decide (0<=(nth x.orders v.order.toNat).drp.place):=by simp [K7,e,Xk,hd]
    rw [hG,hV];refine Fh (.cons 0 (.cons 1 (.cons 2 (.cons 3 (.cons 4 (.cons 5 .nil .nil) .nil) (.cons 4 (.cons 3 (.cons 5 .nil .nil) .nil) .nil)) (.cons 4 (.cons 2 (.cons 3 (.cons 5 .nil .nil) .nil) .nil) .nil)) (.cons 4 (.cons 1 (.cons 2 (.cons 3 (.cons 5 .nil .nil) .nil) .nil) .nil) .nil)) (.cons 1 (.cons 0 (.cons 2 (.cons 3 (.cons 4 (.cons 5 .nil .nil) .nil) (.cons 4 (.cons 3 (.cons 5 .nil .nil) .nil) .nil)) (.cons 4 (.cons 2 (.cons 3 (.cons 5 .nil .nil) .nil) .nil) .nil)) (.cons 2 (.cons 0 (.cons 3 (.cons 4 (.cons 5 .nil .nil) .nil) (.cons 4 (.cons 3 (.cons 5 .nil .nil) .nil) .nil)) (.cons 3 (.cons 0 (.cons 4 (.cons 5 .nil .nil) .nil) .nil) .nil)) .nil)) .nil)) mixed Ze ?_
    refine Zc ?_
    repeat' first
     | refine De ?_ ?_
     | exact we
     | simp (disch:=omega) only [go_sem,seval,↓reduceIte]
   ·have hG:C4 x v=(nth x.orders v.order.toNat).pick:=by simp [C4,e,Xk,hd]
    have hV:K7 x v=decide (0<=(nth x.orders v.order.toNat).pick.place):=by simp [K7,e,Xk,hd]
    rw [hG,hV];refine Fh (.cons 0 (.cons 1 (.cons 2 (.cons 3 (.cons 4 (.cons 5 .nil .nil) .nil) (.cons 4 (.cons 3 (.cons 5 .nil .nil) .nil) .nil)) (.cons 4 (.cons 2 (.cons 3 (.cons 5 .nil .nil) .nil) .nil) .nil)) (.cons 4 (.cons 1 (.cons 2 (.cons 3 (.cons 5 .nil .nil) .nil) .nil) .nil) .nil)) (.cons 1 (.cons 0 (.cons 2 (.cons 3 (.cons 4 (.cons 5 .nil .nil) .nil) (.cons 4 (.cons 3 (.cons 5 .nil .nil) .nil) .nil)) (.cons 4 (.cons 2 (.cons 3 (.cons 5 .nil .nil) .nil) .nil) .nil)) (.cons 2 (.cons 0 (.cons 3 (.cons 4 (.cons 5 .nil .nil) .nil) (.cons 4 (.cons 3 (.cons 5 .nil .nil) .nil) .nil)) (.cons 3 (.cons 0 (.cons 4 (.cons 5 .nil .nil) .nil) .nil) .nil)) .nil)) .nil)) mixed Ze ?_
    refine Zc ?_
    repeat' first
     | refine De ?_ ?_
     | exact we
     | simp (disch:=omega) only [go_sem,seval,↓reduceIte]
def Up (x:Inst) (r:Rte):Bool:=(decide (0<=r.typ)&&decide (r.typ<(x.types.length:Int))&&decide (0<=r.start)&&decide (r.start<=4096)&&decide (r.visits.length<=20))&&r.visits.all (K7 x)
theorem F4 (x:Inst) (r:Rte) (ho:x.orders.length<=1048576) (ht:x.types.length<=1048576) (hl:r.visits.length<=1048576):PC 140 [.p (Zv x),.p (WG r)] (.bool (Up x r)):=by
 refine Zd Tryz.func140 rfl ZaD ?_;simp (disch:=omega) only [Tryz.f140,go_sem,seval];refine gF ?_ ?_<;>intro h1<;>simp (disch:=omega) only [Sh.out h1,go_sem,seval,↓reduceIte]
 ·simp [Up];omega
 ·refine gF ?_ ?_<;>intro h2<;>simp (disch:=omega) only [Sh.out h2,go_sem,seval,↓reduceIte]
  ·simp [Up];omega
  ·refine gF ?_ ?_<;>intro h3<;>simp (disch:=omega) only [Sh.out h3,go_sem,seval,↓reduceIte]
   ·simp [Up];omega
   ·refine gF ?_ ?_<;>intro h4<;>simp (disch:=omega) only [Sh.out h4,go_sem,seval,↓reduceIte]
    ·simp [Up];omega
    ·refine cD ?_ ?_<;>intro h5<;>simp (disch:=omega) only [Sh.out h5,go_sem,seval]
     ·simp [Up];omega
     ·refine Zm [2,3] (fun k:Nat=> [(5,.p (.int .i64 k))]) (fun _=> [Zj x,Xu r]) (fun k=>k<=r.visits.length/\ ∀j,j<k->K7 x (nth r.visits j)=true) (fun k=>r.visits.length-k) 0 Zb (Weak.mk ?_) ?_
      ·simp (disch:=omega) only [Zj,Xu,go_sem,seval]
      ·rintro k ⟨hk,hno⟩;refine K1 ?_;refine cD ?_ ?_<;>intro h<;>simp (disch:=omega) only [Sh.out h,go_sem,seval,↓reduceIte]
       ·have hk2:k<r.visits.length:=Za
        refine X0 [10,11] 12 mixed Ze Ze Ze Zb (Zc ?_);refine Ag (N8 x (nth r.visits k) ho) (Zc ?_);refine Xr 10 _ _ Ze (by refine Zc ?_;exact ⟨rfl,rfl⟩) ?_;refine Zc ?_;refine Xr 11 _ _ Ze (by refine Zc ?_;exact ⟨rfl,rfl⟩) (Wz ?_);refine Zc ?_;refine ZO ?_ ?_<;>intro h6
        ·grind [Zt,Up]
        ·exact ⟨k+1,⟨Za,Zs.2 ⟨hno,by grind⟩⟩,Za,wk⟩
       ·have hkl:k=r.visits.length:=Za
        subst hkl
        have:r.visits.all (K7 x)=true:=by
         rw [Zz];intro v hv;obtain ⟨j,hj,rfl⟩:=ZT.1 hv
         grind [Zh]
        grind [Up]
@[go_sem high] theorem Zk1 {k k':IntKind} {a b:Int} :IA false [.p (.int k a),.p (.int k' b)]=some (.int k (max a b)):=by
 grind [IA]
theorem Pr {l:List Tim} {m:Tim} {d:Int} {b:Bool} :Sd (l++ [m]) l.length d b=l++ [{ m with dep:=d,rest:=b }]:=by
 grind [Zh,Sd]
theorem cF {x:Inst} {t:Typ} {sp:List Stp} {k:Nat} {d s m:Int} {h:She} (hk:k<sp.length) (ho:(nth sp k).opn<=(nth sp k).cls) (hm:h.miles=m) :
  (Jv x t ⟨V9 t sp k,d,s,m⟩ (nth sp k).place (nth sp k).cls 14).2=(WE t sp k (Y1 x t sp k d) d s h).2 /\
  ((WE t sp k (Y1 x t sp k d) d s h).2=0->(Jv x t ⟨V9 t sp k,d,s,m⟩ (nth sp k).place (nth sp k).cls 14).1=⟨(nth sp k).place,(Y1 x t sp k d).1,s+(Y1 x t sp k d).1-d,m+(Y1 x t sp k d).2.1⟩ /\
   (WE t sp k (Y1 x t sp k d) d s h).1=⟨max (Y1 x t sp k d).1 (nth sp k).opn+(nth sp k).serv,s+(Y1 x t sp k d).1-d,{ h with times_c:=false,times:=h.times++ [⟨(Y1 x t sp k d).1,max (Y1 x t sp k d).1 (nth sp k).opn,0,false⟩],miles:=m+(Y1 x t sp k d).2.1 }⟩):=by
 have hne: ¬k=sp.length:=Za
 have e:WZ x.net t.prof (V9 t sp k) (nth sp k).place d=Y1 x t sp k d:=by simp [Y1,Ow,hne]
 unfold Jv WE
 grind
theorem cG {x:Inst} {t:Typ} {sp:List Stp} {d s m:Int} {h:She} (hm:h.miles=m) :
  (Jv x t ⟨V9 t sp sp.length,d,s,m⟩ t.dst t.cls 15).2=(WE t sp sp.length (Y1 x t sp sp.length d) d s h).2 /\
  ((WE t sp sp.length (Y1 x t sp sp.length d) d s h).2=0->(Jv x t ⟨V9 t sp sp.length,d,s,m⟩ t.dst t.cls 15).1=⟨t.dst,(Y1 x t sp sp.length d).1,s+(Y1 x t sp sp.length d).1-d,m+(Y1 x t sp sp.length d).2.1⟩ /\
   (WE t sp sp.length (Y1 x t sp sp.length d) d s h).1=⟨(Y1 x t sp sp.length d).1,s+(Y1 x t sp sp.length d).1-d,{ h with fin:=(Y1 x t sp sp.length d).1,miles:=m+(Y1 x t sp sp.length d).2.1 }⟩):=by
 have e:WZ x.net t.prof (V9 t sp sp.length) t.dst d=Y1 x t sp sp.length d:=by simp [Y1,Ow]
 unfold Jv WE
 grind
def Zde (s:StD):AM.Obj:= .cells [.p (.int .i64 s.place),.p (.int .i64 s.time),.p (.int .i64 s.driven),.p (.int .i64 s.miles)]
def Jh (t:Typ) (sp:List Stp) (k:Nat) (L:Lab) (b:Bool):StD:=⟨V9 t sp k,ZJ t L b,WU L b,L.she.miles⟩
theorem Zkz {g:FuncId} {args:List V} {a c:PV} {H:List AM.Obj} {K:V->List AM.Obj->Prop} (h:ACalls Tryz.prog g args [] fun x H'=> ∃b:PV,x= .tup [.p a,.p b,.p c]/\H'= []) (k: ∀b:PV,K (.tup [.p a,.p b,.p c]) H) (ha:Xn 0 args=true:=by rfl):ACalls Tryz.prog g args H K :=
 (h.behind ha H).mono fun x H' hq=>by
  obtain ⟨y,H1,⟨b,rfl,rfl⟩,rfl,rfl⟩:=hq
  grind [shV,shVs]
theorem Yc {x:Inst} {l:List Vis} :(ZM x l).length=l.length:=by simp [ZM]
theorem GC {x:Inst} {l:List Vis} {k:Nat} (h:k<l.length):nth (ZM x l) k=Xk x (nth l k):=by
 grind [Zh,ZM]
theorem UM {P Q:Prop} (h:Q) (e:Q->P:=by intro h;simp (disch:=omega) only [Zr,Zn,Z6,ZX,go_sem,seval];exact h):P:=e h
theorem tK (x:Inst) (r:Rte) (rests:List Bool) (c:Bool) (hok:TrpOk x (ZE x r) (ZM x r.visits)) (ho:x.orders.length<=1048576) (ht:x.types.length<=1048576) (hne:0<r.visits.length) (hp:Up x r=true) (hl:rests.length=r.visits.length+1) :
  ACalls Tryz.prog 182 [.p (Zv x),.p (WG r),.p (.list c (rests.map eB))] [] fun y H'=> ∃d:PV,y= .tup [.p (Fq (Xf x (ZE x r) (ZM x r.visits) 0 (labF (ZE x r) r.start) rests).1.she),.p d,.p (.int .i64 (Xf x (ZE x r) (ZM x r.visits) 0 (labF (ZE x r) r.start) rests).2)]/\H'= []:=by
 have hp2:=hp;simp only [Up,ZB,Zq] at hp2;obtain ⟨⟨⟨⟨⟨p1,p2⟩,p3⟩,p4⟩,p5⟩,p6⟩:=hp2;have hvis: ∀k,k<r.visits.length->K7 x (nth r.visits k)=true:=fun k hk=>Zz.1 p6 _ (Zt hk)
 have hstop: ∀k,k<r.visits.length->C4 x (nth r.visits k)=nth (ZM x r.visits) k:=fun k hk=>by
  simp_all [K7,C4,GC]
 have hti:r.typ.toNat<x.types.length:=Za
 have hopn:=hok.opn;have hrst:=hok.rst;have htd:ZE x r=nth x.types r.typ.toNat:=rfl
 generalize hT:ZE x r=t at *
 have hsl:(ZM x r.visits).length=r.visits.length:=Yc
 generalize hS:ZM x r.visits=sp at *
 refine Zf [26] Tryz.func182 rfl Za3 ?_;simp (disch:=omega) only [Tryz.f182,go_sem,seval];refine (F4 x r ho ht Za).use (Zc ?_);rw [hp];refine Zc ?_;refine cD ?_ ?_<;>intro h0<;>simp (disch:=omega) only [Sh.out h0,<- htd,go_sem,seval,↓reduceIte]
 ·omega
 ·refine X0 [13] 14 mixed Ze Ze Ze Zb (Zc ?_);refine Zo (NG t ⟨t.src,max t.opn r.start,0,0⟩ (nth rests 0) (by grind)) (Zc ?_);refine Xr 13 _ _ Ze (by refine Zc ?_;exact ⟨rfl,rfl⟩) (Wz ?_);refine Zc ?_;refine X0 [6] 7 mixed Ze Ze Ze Zb (Zc ?_);refine Xr 6 _ _ Ze (by refine Zc ?_;exact ⟨rfl,rfl⟩) (Wz ?_);refine Zc ?_;have hL0:LabR 0 (labF t r.start):=⟨by grind [labF],by simp [labF],by simp [labF,zShe]⟩
  have hS0:Gc t ⟨t.src,max t.opn r.start,0,0⟩ (nth rests 0)=Jh t sp 0 (labF t r.start) (nth rests 0):=by
   simp only [Gc,Jh,V9,ZJ,WU,labF,zShe,if_true]
   split<;>rfl
  simp (disch:=omega) only [hS0,go_sem,seval]
  refine Z4 [26] [2,3,4,6,9,10,11] (fun q:Nat×Lab×List Int=> [(12,.sl 7 0 q.2.2.length q.2.2.length),(13,.p (.int .i64 q.1))])
   (fun q=> [Zj x,Xu r,.cells [.p (.bool false),.p (.int .i64 0),.p (.list true []),.p (.int .i64 0),.p (.int .i64 0)],Yf t,Zde (Jh t sp q.1 q.2.1 (nth rests q.1)),
    .cells [.p (.bool (XZ q.1 (ZJ t q.2.1 (nth rests q.1)) (nth rests q.1) q.2.1.she).rest),.p (.int .i64 (XZ q.1 (ZJ t q.2.1 (nth rests q.1)) (nth rests q.1) q.2.1.she).dep),.sl 6 0 (XZ q.1 (ZJ t q.2.1 (nth rests q.1)) (nth rests q.1) q.2.1.she).times.length (XZ q.1 (ZJ t q.2.1 (nth rests q.1)) (nth rests q.1) q.2.1.she).times.length,.p (.int .i64 0),.p (.int .i64 0)],
    .elems 4 ((XZ q.1 (ZJ t q.2.1 (nth rests q.1)) (nth rests q.1) q.2.1.she).times.map eTim),.elems 1 (q.2.2.map eI)])
   (fun q=>q.1<=r.visits.length/\Xf x t sp 0 (labF t r.start) rests=Xf x t sp q.1 q.2.1 (rests.drop q.1)/\LabR q.1 q.2.1/\q.2.1.she.times.length=q.1/\q.2.1.she.fin=0/\(0<q.1->q.2.1.she.times_c=false)/\q.2.2.length=q.1) (fun q=>r.visits.length-q.1) (0,labF t r.start,[])
   ⟨Zb,Zb,hL0,by rfl,by rfl,Zb,Zb⟩ ((Weak.nilC (o:=5) (j:=2) 4 rfl rfl Zb).trans (Weak.ofNil 12 1 rfl Zb (Weak.mk ?_))) ?_
  ·simp (disch:=omega) only [Zj,Xu,Yf,Zde,Jh,V9,XZ,labF,zShe,Zn,ZF,Z6,ZX,ZK,Zy,go_sem,seval]
  ·rintro ⟨k,L,ds⟩ ⟨hk,hrun,hL,hlen,hfin,hclip,hds⟩;simp only at hk hrun hL hlen hfin hclip hds
   have hmlen:(XZ k (ZJ t L (nth rests k)) (nth rests k) L.she).times.length=k:=by grind [AG]
   have hd:=Ku hok hL (nth rests k);have hs:=Gz hL (nth rests k);have hg:=I6 hok hL (nth rests k);have hmi:=hL.mil
   generalize hm:XZ k (ZJ t L (nth rests k)) (nth rests k) L.she=m at *
   have hmm:m.miles=L.she.miles:=by rw [<- hm,KJ]
   have hmf:m.fin=0:=by grind [HO]
   have hdrop:rests.drop k=nth rests k::rests.drop (k+1):=by grind [V4,Zh]
   have hnx:nxtF x t sp k L (nth rests k)=WE t sp k (Y1 x t sp k (ZJ t L (nth rests k))) (ZJ t L (nth rests k)) (WU L (nth rests k)) m:=by rw [nxtF,hm]
   rw [hdrop,Xf] at hrun;simp (disch:=omega) only [Zj,Xu,Yf,Zde,go_sem,seval];refine cD ?_ ?_<;>intro h<;>simp (disch:=omega) only [Sh.out h,go_sem,seval,↓reduceIte]
   ·have hk2:k<r.visits.length:=Za
    have hsp:=hok.stp _ (ZY (show k<sp.length by omega));refine X0 [10,11] 12 mixed Ze Ze Ze Zb (Zc ?_);refine Ag (N8 x (nth r.visits k) ho) (Zc ?_);refine Xr 10 _ _ Ze (by refine Zc ?_;exact ⟨rfl,rfl⟩) ?_;refine Zc ?_;refine Xr 11 _ _ Ze (by refine Zc ?_;exact ⟨rfl,rfl⟩) (Wz ?_);simp (disch:=omega) only [hstop k hk2,go_sem,seval];obtain ⟨f1,f2⟩:=cF (x:=x) (t:=t) (d:=ZJ t L (nth rests k)) (s:=WU L (nth rests k)) (h:=m) (show k<sp.length by omega) hsp.2.1 hmm
    have he2:WZ x.net t.prof (V9 t sp k) (nth sp k).place (ZJ t L (nth rests k))=Y1 x t sp k (ZJ t L (nth rests k)):=by
     grind [Y1,Ow]
    refine Yg (N7 x t (Jh t sp k L (nth rests k)) (nth sp k).place (nth sp k).cls 14 hok.net ?_ ?_ ?_ ?_) ?_
    ·grind [Jh]
    ·grind [Jh,dG]
    ·grind [Jh,dG]
    ·grind [Jh,dG]
    have f1':(Jv x t (Jh t sp k L (nth rests k)) (nth sp k).place (nth sp k).cls 14).2=(nxtF x t sp k L (nth rests k)).2:=by rw [hnx,<- f1];rfl
    refine Zc ?_;rw [f1'];refine cD ?_ ?_<;>intro h3<;>simp (disch:=omega) only [Sh.out h3,go_sem,seval,↓reduceIte]
    ·rw [if_neg h3] at hrun;rw [hrun];simp only [WX,zShe];exact ⟨_,_,Weak.mk (by simp (disch:=omega) only [Zn,go_sem,seval]),.list true [],rfl,rfl⟩
    ·have h3':(nxtF x t sp k L (nth rests k)).2=0:=Z2.1 h3;rw [if_pos h3'] at hrun;have hL':=Ls hok Za hL h3';rw [hnx] at h3';obtain ⟨f3,f4⟩:=f2 h3';have f3':(Jv x t (Jh t sp k L (nth rests k)) (nth sp k).place (nth sp k).cls 14).1=⟨(nth sp k).place,(Y1 x t sp k (ZJ t L (nth rests k))).1,WU L (nth rests k)+(Y1 x t sp k (ZJ t L (nth rests k))).1-ZJ t L (nth rests k),L.she.miles+(Y1 x t sp k (ZJ t L (nth rests k))).2.1⟩:=f3
     have hL2:(nxtF x t sp k L (nth rests k)).1=⟨max (Y1 x t sp k (ZJ t L (nth rests k))).1 (nth sp k).opn+(nth sp k).serv,WU L (nth rests k)+(Y1 x t sp k (ZJ t L (nth rests k))).1-ZJ t L (nth rests k),{ m with times_c:=false,times:=m.times++ [⟨(Y1 x t sp k (ZJ t L (nth rests k))).1,max (Y1 x t sp k (ZJ t L (nth rests k))).1 (nth sp k).opn,0,false⟩],miles:=L.she.miles+(Y1 x t sp k (ZJ t L (nth rests k))).2.1 }⟩:=by grind
     simp (disch:=omega) only [f3',go_sem,seval];refine X0 [13] 14 mixed Ze Ze Ze Zb (Zc ?_);refine Xr 13 _ _ Ze (by refine Zc ?_;exact ⟨rfl,rfl⟩) (Wz ?_);refine Zc ?_
     generalize (nxtF x t sp k L (nth rests k)).1=L2 at *
     have hS1:Gc t ⟨(nth sp k).place,max (Y1 x t sp k (ZJ t L (nth rests k))).1 (nth sp k).opn+(nth sp k).serv,WU L (nth rests k)+(Y1 x t sp k (ZJ t L (nth rests k))).1-ZJ t L (nth rests k),L.she.miles+(Y1 x t sp k (ZJ t L (nth rests k))).2.1⟩ (nth rests (k+1))=Jh t sp (k+1) L2 (nth rests (k+1)):=by
      rw [hL2];simp only [Gc,Jh,V9,ZJ,WU,Nat.add_sub_cancel,if_neg (show ¬k+1=0 by omega)]
      split<;>rfl
     have hM:XZ (k+1) (ZJ t L2 (nth rests (k+1))) (nth rests (k+1)) L2.she= { m with times_c:=false,times:=m.times++ [⟨(Y1 x t sp k (ZJ t L (nth rests k))).1,max (Y1 x t sp k (ZJ t L (nth rests k))).1 (nth sp k).opn,ZJ t L2 (nth rests (k+1)),nth rests (k+1)⟩],miles:=L.she.miles+(Y1 x t sp k (ZJ t L (nth rests k))).2.1 } :=by
      have he:L2.she= { m with times_c:=false,times:=m.times++ [⟨(Y1 x t sp k (ZJ t L (nth rests k))).1,max (Y1 x t sp k (ZJ t L (nth rests k))).1 (nth sp k).opn,0,false⟩],miles:=L.she.miles+(Y1 x t sp k (ZJ t L (nth rests k))).2.1 } :=by rw [hL2]
      rw [he,XZ,if_neg Za,Nat.add_sub_cancel]
      grind [Pr]
     have hd2:=Ku hok hL' (nth rests (k+1));refine ZC 8 mixed Ze Ze (Zc ?_);refine Zo (NG t ⟨(nth sp k).place,max (Y1 x t sp k (ZJ t L (nth rests k))).1 (nth sp k).opn+(nth sp k).serv,WU L (nth rests k)+(Y1 x t sp k (ZJ t L (nth rests k))).1-ZJ t L (nth rests k),L.she.miles+(Y1 x t sp k (ZJ t L (nth rests k))).2.1⟩ (nth rests (k+1)) (by grind)) (Zc ?_);simp (disch:=omega) only [hS1,go_sem,seval];refine ⟨(k+1,L2,ds++ [L2.since]),⟨Za,hrun,hL',by grind,by grind,by grind,by simp [hds]⟩,Za,Weak.mk ?_⟩
     simp (disch:=omega) only [hM,hmlen,ZH,ZD,ZF,Xz,Zr,Zn,go_sem,seval];exact ⟨rfl,by grind⟩
   ·have hkl:k=sp.length:=Za
    subst hkl;obtain ⟨f1,f2⟩:=cG (x:=x) (t:=t) (sp:=sp) (d:=ZJ t L (nth rests sp.length)) (s:=WU L (nth rests sp.length)) (h:=m) hmm
    have he2:WZ x.net t.prof (V9 t sp sp.length) t.dst (ZJ t L (nth rests sp.length))=Y1 x t sp sp.length (ZJ t L (nth rests sp.length)):=by simp [Y1,Ow]
    refine Yg (N7 x t (Jh t sp sp.length L (nth rests sp.length)) t.dst t.cls 15 hok.net ?_ ?_ ?_ ?_) ?_
    ·grind [Jh]
    ·grind [Jh,dG]
    ·grind [Jh,dG]
    ·grind [Jh,dG]
    have f1':(Jv x t (Jh t sp sp.length L (nth rests sp.length)) t.dst t.cls 15).2=(nxtF x t sp sp.length L (nth rests sp.length)).2:=by rw [hnx,<- f1];rfl
    refine Zc ?_;rw [f1'];have hdl:rests.drop (sp.length+1)= []:=Cp Za;rw [hdl,Xf] at hrun;refine cD ?_ ?_<;>intro h3<;>simp (disch:=omega) only [Sh.out h3,go_sem,seval,↓reduceIte]
    ·rw [if_neg h3] at hrun;rw [hrun];simp only [WX,zShe];exact ⟨_,_,Weak.mk (by simp (disch:=omega) only [Zn,go_sem,seval]),.list true [],rfl,rfl⟩
    ·have h3':(nxtF x t sp sp.length L (nth rests sp.length)).2=0:=Z2.1 h3;rw [if_pos h3'] at hrun;rw [hnx] at h3';obtain ⟨f3,f4⟩:=f2 h3';have f3':(Jv x t (Jh t sp sp.length L (nth rests sp.length)) t.dst t.cls 15).1=⟨t.dst,(Y1 x t sp sp.length (ZJ t L (nth rests sp.length))).1,WU L (nth rests sp.length)+(Y1 x t sp sp.length (ZJ t L (nth rests sp.length))).1-ZJ t L (nth rests sp.length),L.she.miles+(Y1 x t sp sp.length (ZJ t L (nth rests sp.length))).2.1⟩:=f3;rw [hrun,hnx,f4];simp (disch:=omega) only [f3',go_sem,seval];refine Zp (Weak.fz (o:=6) (by rfl)) ?_
     refine Zp (Weak.fz (o:=7) (by rfl)) (Zg [] _ _ _ _ (UM ?_))
     have hmc:m.times_c=false:=by
      grind [XZ]
     exact ⟨_,_,Weak.mk (by simp (disch:=omega) only [hmc,go_sem,seval]),.list false (ds.map eI++ [.int .i64 (WU L (nth rests sp.length)+(Y1 x t sp sp.length (ZJ t L (nth rests sp.length))).1-ZJ t L (nth rests sp.length))]),rfl,rfl⟩
theorem oJ (x:Inst) (r:Rte) (rests:List Bool) (c:Bool) (hok:TrpOk x (ZE x r) (ZM x r.visits)) (ho:x.orders.length<=1048576) (ht:x.types.length<=1048576) (hne:0<r.visits.length) (hp:Up x r=true) (hl:rests.length=r.visits.length+1) :
  PT 141 [.p (Zv x),.p (WG r),.p (.list c (rests.map eB))] [.p (Fq (Xf x (ZE x r) (ZM x r.visits) 0 (labF (ZE x r) r.start) rests).1.she),.p (.int .i64 (Xf x (ZE x r) (ZM x r.visits) 0 (labF (ZE x r) r.start) rests).2)]:=by
 have cr:=tK x r rests c hok ho ht hne hp hl;generalize (Xf x (ZE x r) (ZM x r.visits) 0 (labF (ZE x r) r.start) rests)=q at cr ⊢;obtain ⟨L,e⟩:=q;refine Zf [] Tryz.func141 rfl ZaE ?_;simp (disch:=omega) only [Tryz.f141,go_sem,seval];refine Zkz cr fun d=>Zc ?_;exact we
def D4 (l:List Bool) (n:Nat):Option (List Bool):=(Yw (l.drop n)).map (l.take n++ ·)
def Pz : Option (List Bool)->PV
 | some l=> .list false (l.map eB)
 | none=> .list true []
theorem KN : ∀m:Nat,Yw (List.replicate m true)=none
 | 0=>rfl
 | m+1=>by rw [KG,Yw,KN m];rfl
theorem HR : ∀(a b r:List Bool),Yw b=some r->Yw (a++b)=some (a++r)
 | [],b,r,h=>h
 | x::a,b,r,h=>by rw [ZK,Yw,HR a b r h];rfl
theorem kI (a:List Bool) (m:Nat):Yw (a++false::List.replicate m true)=some (a++true::List.replicate m false):=by
 grind [HR,Yw,KN]
theorem NZ {o:List Bool} {i:Nat} {b:Bool} :(o.map eB).set i (.bool b)=(o.set i b).map eB:=by rw [UT];rfl
theorem kH (l:List Bool) (c:Bool) (n:Nat) (hn:n<=l.length) (h0:0<l.length) (hl:l.length<=1048576):PT 142 [.p (.list c (l.map eB)),.p (.int .i64 (n:Nat))] [.p (Pz (D4 l n)),.p (.bool (D4 l n).isSome)]:=by
 refine Zf [8] Tryz.func142 rfl ZaF ?_;simp (disch:=omega) only [Tryz.f142,go_sem,seval];rw [if_pos ⟨Za,Za⟩];refine Zc ?_;refine Z4 [8] [1] (fun q:Nat×List Bool=> [(6,.sl 0 0 q.2.length q.2.length),(7,.p (.int .i64 ((q.1:Int)-1)))]) (fun q=> [.elems 1 (q.2.map eB)]) (fun q=>n<=q.1/\q.1<=l.length/\q.2=l.take q.1++List.replicate (l.length-q.1) false/\l.drop q.1=List.replicate (l.length-q.1) true) (fun q=>q.1) (l.length,l) (by simp;omega) (Weak.mk ?_) ?_
 ·simp (disch:=omega) only [go_sem,seval]
 ·rintro ⟨j,o⟩ ⟨hj1,hj2,ho,hjt⟩;simp only at hj1 hj2 ho hjt
  have hol:o.length=l.length:=by grind
  refine Zc ?_;refine cD ?_ ?_<;>intro h<;>simp (disch:=omega) only [Sh.out h,go_sem,seval,↓reduceIte]
  ·obtain ⟨i,rfl⟩: ∃i,j=i+1:=⟨j-1,Za⟩
   have hij:(((i+1:Nat):Int)-1)=(i:Int):=Za
   have hat:nth o i=nth l i:=by
    grind [Zh]
   have G4:l.drop i=nth l i::List.replicate (l.length-(i+1)) true:=by
    grind [V4,Zh]
   have hio:i<o.length:=Za
   simp (disch:=first | omega | (simp only [ZD,ZF,ZH,Z1,Xs,XI]<;>omega)) only [Int.add_sub_cancel,UR,hat,hio,go_sem,seval,↓reduceIte];refine cD ?_ ?_<;>intro h2<;>simp (disch:=omega) only [Sh.out h2,go_sem,seval]
   ·have hf:nth l i=false:=by grind
    have hres:D4 l n=some (o.set i true):=by
     rw [hf] at G4
     have e:l.drop n=(l.drop n).take (i-n)++false::List.replicate (l.length-(i+1)) true:=by
      rw [<- G4,show l.drop i=(l.drop n).drop (i-n) by simp_all,List.take_append_drop]
     rw [D4,e,kI,ho];simp only [Ay,Qb]
     have e2:l.take (i+1)=l.take n++(l.drop n).take (i-n)++ [nth l i]:=by
      rw [Yb Za,Zh Za]
      congr 1
      have:l.take i=l.take (n+(i-n)):=by congr 1;omega
      grind
     rw [e2,hf]
     have el:(l.take n++(l.drop n).take (i-n)).length=i:=by simp;omega
     rw [KI (l.take n++(l.drop n).take (i-n)),EB _ _ Za,el];simp
    rw [hres];simp (disch:=first | omega | (simp only [ZD,ZF,ZH,Z1,Xs,XI]<;>omega)) only [NZ,go_sem,seval,↓reduceIte];refine Zp (Weak.fz (o:=0) (by rfl)) ?_;refine Zg [] _ _ _ _ ?_;simp (disch:=omega) only [Zr,Zn,ZX,go_sem,seval];simp only [Qz,if_true];exact we (by simp (disch:=omega) only [Pz,J1,go_sem,seval])
   ·have hf:nth l i=true:=by grind
    simp (disch:=first | omega | (simp only [ZD,ZF,ZH,Z1,Xs,XI]<;>omega)) only [NZ,go_sem,seval];refine ⟨(i,o.set i false),⟨Za,Za,?_,?_⟩,Za,Weak.mk (by simp (disch:=first | omega | (simp only [ZD,ZF,ZH,Z1,Xs,XI]<;>omega)) only [Qz,go_sem,seval])⟩
    ·grind
    grind
  ·have hjn:j=n:=Za
   have hres:D4 l n=none:=by grind [D4,KN]
   rw [hres];exact we (by simp (disch:=omega) only [Pz,As,go_sem,seval])
theorem aH {r q:List Bool} :D4 (r++q) r.length=(Yw q).map (r++ ·):=by simp [D4]
theorem aS {l:List Bool} :Pz (some l)= .list false (l.map eB):=rfl
theorem aR : Pz none= .list true []:=rfl
def Hc (b:Option Lab):She:=match b with | some L=>L.she | none=>zShe
def G9 (r:List Bool) (cur:Option (List Bool)):List (List Bool):=match cur with | some q=>(YS q).map (r++ ·) | none=> []
theorem DG {r s:List Bool} :G9 r (some s)=(r++s)::G9 r (Yw s):=by
 grind [G9,fromB_next]
theorem NM {x:Inst} {t:Typ} {sp:List Stp} : ∀(bs:List Bool) (k:Nat) (L:Lab),¬(Xf x t sp k L bs).2=0->(Xf x t sp k L bs).1=WX
 | [],k,L,h=>by simp [Xf] at h
 | b::bs,k,L,h=>by
  rw [Xf] at h ⊢
  split
  ·rename_i c;rw [if_pos c] at h;exact NM bs _ _ h
  ·rfl
theorem eZ (x:Inst) (r:Rte) (hok:TrpOk x (ZE x r) (ZM x r.visits)) (ho:x.orders.length<=1048576) (ht:x.types.length<=1048576) (hne:0<r.visits.length) (hp:Up x r=true) (hl:r.rests.length<=r.visits.length+1) :
  PT 91 [.p (Zv x),.p (WG r)] [.p (Fq (Xv x r).1),.p (.int .i64 (Xv x r).2)]:=by
 have hsl:(ZM x r.visits).length=r.visits.length:=Yc;have hp2:=hp;simp only [Up,ZB,Zq] at hp2;have hv20:=hp2.1.2;have hrun:=fun rests (c:Bool) (h:rests.length=r.visits.length+1)=>oJ x r rests c hok ho ht hne hp h;have hopt:=fun bs=>Yy (x:=x) (t:=ZE x r) (sp:=ZM x r.visits) bs 0 (labF (ZE x r) r.start);unfold Xv Yn
 generalize hS:ZM x r.visits=sp at *
 generalize ZE x r=t at *
 generalize labF t r.start=L0 at *
 refine Zf [5,6] Tryz.func91 rfl wC ?_;simp (disch:=omega) only [Tryz.f91,go_sem,seval];refine (F4 x r ho ht Za).use (Zc ?_);rw [hp];refine Zc ?_;refine cD ?_ ?_<;>intro h0<;>simp (disch:=omega) only [Sh.out h0,go_sem,seval,↓reduceIte]
 ·omega
 ·refine YO (IK 3 rfl rfl (Zc ?_));refine ⟨_,_,Nx (e:=4) rfl Tryz.underlying40 Ze rfl rfl rfl ?_ ?_ ?_,?_⟩
  ·simp
  ·simp;omega
  ·intro q hq;obtain ⟨b,_,rfl⟩:=XQ.1 hq
   rfl
  ·have hpl:(YM r.rests (sp.length+1)).length=r.visits.length+1:=by simp [YM];omega
   have hpad:r.rests.map eB++(PV.bool false::List.replicate r.visits.length (PV.bool false)).drop (r.rests.map eB).length=(YM r.rests (sp.length+1)).map eB:=by
    rw [YM,Xz,<- KG,List.drop_replicate,Ar,hsl,Z1];rfl
   simp only [Z6,ZX];rw [hpad];have h0r:=hopt (YM r.rests (sp.length+1))
   have cn: ∀s:List Bool,(r.rests++s).length=r.visits.length+1->PT 142 [.p (.list false ((r.rests++s).map eB)),.p (.int .i64 (r.rests.length:Nat))] [.p (Pz ((Yw s).map (r.rests++ ·))),.p (.bool ((Yw s).map (r.rests++ ·)).isSome)]:=fun s hs=>by
    grind [kH,aH]
   have e1:(Xf x t sp 0 L0 (YM r.rests (sp.length+1))).1.she=Hc (Y9 (XA x t sp) 0 L0 (YM r.rests (sp.length+1))):=by
    rw [h0r]
    split
    ·rfl
    ·rename_i c;rw [NM _ _ _ c];rfl
   have e2:decide ((Xf x t sp 0 L0 (YM r.rests (sp.length+1))).2=0)=(Y9 (XA x t sp) 0 L0 (YM r.rests (sp.length+1))).isSome:=by
    grind
   have hrp:=hrun (YM r.rests (sp.length+1)) false hpl;have hall:XE r.rests (sp.length+1)=G9 r.rests (some (List.replicate (sp.length+1-r.rests.length) false)):=rfl;refine Zp (Weak.fz (o:=3) (by rfl)) (Zg [] _ _ _ _ (UM ?_));rw [if_pos hpl];refine Yg hrp (Zc ?_);refine Yg (cn (List.replicate (sp.length+1-r.rests.length) false) hpl) ?_;simp (disch:=omega) only [e1,e2,go_sem,seval]
   have hfm:W4 Wf none ((XE r.rests (sp.length+1)).filterMap (Y9 (XA x t sp) 0 L0))=W4 Wf (Y9 (XA x t sp) 0 L0 (YM r.rests (sp.length+1))) ((G9 r.rests (Yw (List.replicate (sp.length+1-r.rests.length) false))).filterMap (Y9 (XA x t sp) 0 L0)):=by
    rw [hall,DG,List.filterMap_cons];rw [show r.rests++List.replicate (sp.length+1-r.rests.length) false=YM r.rests (sp.length+1) from rfl]
    cases Y9 (XA x t sp) 0 L0 (YM r.rests (sp.length+1)) with
    | none=>rfl
    | some L=>rfl
   clear hall;generalize W4 Wf none ((XE r.rests (sp.length+1)).filterMap (Y9 (XA x t sp) 0 L0))=res at hfm ⊢;generalize (Xf x t sp 0 L0 (YM r.rests (sp.length+1))).2=err0
   refine Zm [2,3,4,8,9] (fun q:Option (List Bool)×Option Lab=> [(7,.p (Pz (q.1.map (r.rests++ ·)))),(10,.p (.bool q.2.isSome)),(11,.p (.bool (q.1.map (r.rests++ ·)).isSome))])
    (fun q=> [Zj x,Xu r,.cells [.p (.bool false),.p (.int .i64 0),.p (.list true []),.p (.int .i64 0),.p (.int .i64 0)],.dead,.cells [.p (.bool (Hc q.2).rest),.p (.int .i64 (Hc q.2).dep),.p (.list (Hc q.2).times_c ((Hc q.2).times.map eTim)),.p (.int .i64 (Hc q.2).fin),.p (.int .i64 (Hc q.2).miles)]])
    (fun q=>res=W4 Wf q.2 ((G9 r.rests q.1).filterMap (Y9 (XA x t sp) 0 L0))/\ ∀s,q.1=some s->s.length=sp.length+1-r.rests.length) (fun q=>(G9 r.rests q.1).length)
    (Yw (List.replicate (sp.length+1-r.rests.length) false),Y9 (XA x t sp) 0 L0 (YM r.rests (sp.length+1))) ⟨hfm,fun s hs=>by have:=fromB_next.nlen _ _ hs;grind⟩ (Weak.mk ?_) ?_
   ·simp (disch:=omega) only [Zj,Xu,go_sem,seval]
   ·rintro ⟨cur,b⟩ ⟨hR,hcl⟩;simp only at hR hcl
    cases cur with
    | none =>
     simp only [G9,List.filterMap_nil] at hR;simp (disch:=omega) only [Option.map_none,As,aR,Zj,Xu,go_sem,seval]
     cases b with
     | none =>
      rw [W4] at hR;subst hR;simp (disch:=omega) only [As,Vj,go_sem,seval];exact we (by simp (disch:=omega) only [zShe,Zn,go_sem,seval])
     | some m =>
      rw [W4] at hR;subst hR;simp (disch:=omega) only [J1,YD,Hc,go_sem,seval];exact we
    | some s =>
     have hsl2:=hcl s rfl;rw [DG,List.filterMap_cons,hopt] at hR
     have hmu:(G9 r.rests (Yw s)).length<(G9 r.rests (some s)).length:=by rw [DG];simp
     have hnl: ∀s',Yw s=some s'->s'.length=sp.length+1-r.rests.length:=fun s' hs'=>by grind [fromB_next.nlen]
     have hlen:(r.rests++s).length=r.visits.length+1:=by simp;omega
     have hr1:=hrun (r.rests++s) false hlen;have cn1:=cn s hlen;rw [Xz] at hr1 cn1;simp (disch:=omega) only [Ay,J1,aS,Zj,Xu,go_sem,seval];generalize Xf x t sp 0 L0 (r.rests++s)=g at hR hr1;obtain ⟨Lg,eg⟩:=g;simp only at hR hr1;refine Yg hr1 (Zc ?_);refine gT ?_ ?_<;>intro h1<;>simp (disch:=omega) only [Sh.out h1,go_sem,seval,↓reduceIte]
     ·subst h1
      cases b with
      | none =>
       simp (disch:=omega) only [As,Vj,go_sem,seval];refine Yg cn1 (Zc ?_);exact ⟨(Yw s,some Lg),⟨hR,hnl⟩,hmu,Weak.mk (by simp (disch:=omega) only [Hc,J1,go_sem,seval])⟩
      | some m =>
       simp (disch:=omega) only [J1,YD,Hc,go_sem,seval];refine cD ?_ ?_<;>intro h2<;>simp (disch:=omega) only [Sh.out h2,go_sem,seval,↓reduceIte]
       ·refine Yg cn1 ?_;refine Zc ?_;exact ⟨(Yw s,some Lg),⟨by rw [hR];simp only [if_true,W4,Wf,h2],hnl⟩,hmu,Weak.mk (by simp (disch:=omega) only [J1,go_sem,seval])⟩
       ·refine Yg cn1 ?_;refine Zc ?_;exact ⟨(Yw s,some m),⟨by rw [hR];simp only [if_true,W4,Wf,h2,Yi],hnl⟩,hmu,Weak.mk (by simp (disch:=omega) only [J1,go_sem,seval])⟩
     ·rw [if_neg h1] at hR;refine Yg cn1 (Zc ?_);exact ⟨(Yw s,b),⟨hR,hnl⟩,hmu,wk⟩
def eR (p:Bool×List Int):PV:= .list p.1 (p.2.map eI)
@[go_sem] theorem Zpw (p:Bool×List Int):eR p= .list p.1 (p.2.map eI):=Zl rfl rfl
theorem gN (L:List (Bool×List Int)) (c:Bool) (d:Nat) (hd:d<=3) (hL:L.length<=1048576) (h: ∀p∈L,p.2.length=d):PC 227 [.p (.list c (L.map eR)),.p (.int .i64 (d:Nat))] (.bool true):=by
 refine Zd Tryz.func227 rfl Zbs ?_
 have e1: ¬(d:Int)<0:=Za
 have e2: ¬(3:Int)<d:=Za
 simp (disch:=omega) only [Tryz.f227,e1,e2,go_sem,seval];refine Zm [0,1] (fun k:Nat=> [(5,.p (.int .i64 k))]) (fun _=> []) (fun k=>k<=L.length) (fun k=>L.length-k) 0 Zb (Weak.mk ?_) ?_
 ·simp (disch:=omega) only [go_sem,seval,↓reduceIte]
 ·intro k hk;refine Zc ?_;refine cD ?_ ?_<;>intro h1<;>simp (disch:=omega) only [Sh.out h1,go_sem,seval,↓reduceIte]
  ·have hk2:k<L.length:=Za
   have hp:=h _ (Zt hk2);simp (disch:=omega) only [hp,go_sem,seval];exact ⟨k+1,Za,Za,wk⟩
def Eh (L:List (Bool×List Int)) (k j:Nat):Int:=((L.take k).map fun p=>nth p.2 j).sum
theorem Ho {L:List (Bool×List Int)} {k j:Nat} (h:k<L.length):Eh L (k+1) j=Eh L k j+nth (nth L k).2 j:=by
 grind [Eh,Yb,Zh]
theorem ME {L:List (Bool×List Int)} {d j:Nat} (h: ∀p∈L,p.2.length=d/\ ∀n∈p.2,0<=n/\n<=1000) (hj:j<d): ∀k,k<=L.length->0<=Eh L k j/\Eh L k j<=1000*(k:Int)
 | 0,_=>by simp [Eh]
 | k+1,hk=>by
  have ih:=ME h hj k Za;obtain ⟨h1,h2⟩:=h _ (Zt (show k<L.length by omega));have:=h2 _ (Zt (show j<(nth L k).2.length by omega))
  grind [Ho]
def uD (L:List (Bool×List Int)) (d:Nat):List Int:=(List.range d).map fun j=>Eh L L.length j
theorem uC (L:List (Bool×List Int)) (c:Bool) (d:Nat) (hd:1<=d/\d<=3) (hL:L.length<=1048576) (h: ∀p∈L,p.2.length=d/\ ∀n∈p.2,0<=n/\n<=1000) :
  PT 213 [.p (.list c (L.map eR)),.p (.int .i64 (d:Nat))] [.p (.list false ((uD L d).map eI)),.p (.int .i64 0)]:=by
 refine Zf [13] Tryz.func213 rfl Zbi ?_;simp (disch:=omega) only [Tryz.f213,go_sem,seval];refine (gN L c d hd.2 hL fun p hp=>(h p hp).1).use (Zc ?_);refine Z4 [13] [0,1] (fun q:Nat×List Int=> [(6,.sl 0 0 q.2.length q.2.length),(7,.p (.int .i64 q.1))]) (fun q=> [.elems 1 (q.2.map eI)]) (fun q=>q.1<=d/\q.2=(List.range q.1).map fun j=>Eh L L.length j) (fun q=>d-q.1) (0,[]) Zb (Weak.ofNil 6 1 rfl Zb (Weak.mk ?_)) ?_
 ·simp (disch:=omega) only [Zn,ZF,go_sem,seval,↓reduceIte]
 ·rintro ⟨j,o⟩ ⟨hj,ho⟩;simp only at hj ho
  have hol:o.length=j:=by rw [ho];simp
  refine Zc ?_;refine cD ?_ ?_<;>intro h1<;>simp (disch:=omega) only [Sh.out h1,go_sem,seval,↓reduceIte]
  ·have hj2:j<d:=Za
   refine Zm [0,1,6,7] (fun k:Nat=> [(8,.p (.int .i64 (Eh L k j))),(9,.p (.int .i64 k))]) (fun _=> [.elems 1 (o.map eI)]) (fun k=>k<=L.length) (fun k=>L.length-k) 0 Zb (Weak.mk ?_) ?_
   ·simp (disch:=omega) only [Eh,Q2,Zn,List.sum_nil,go_sem,seval,↓reduceIte]
   ·intro k hk;refine Zc ?_;refine cD ?_ ?_<;>intro h2<;>simp (disch:=omega) only [Sh.out h2,go_sem,seval,↓reduceIte]
    ·have hk2:k<L.length:=Za
     obtain ⟨g1,g2⟩:=h _ (Zt hk2);have g3:=g2 _ (Zt (show j<(nth L k).2.length by omega));have g4:=ME h hj2 k hk;have g5:=Ho (j:=j) hk2
     have g6:j<(nth L k).2.length:=Za
     refine Zc ?_;exact ⟨k+1,Za,Za,Weak.mk (by simp (disch:=omega) only [g5,go_sem,seval])⟩
    ·have hkl:k=L.length:=Za
     subst hkl;refine ⟨(j+1,o++ [Eh L L.length j]),⟨Za,by grind [Yu]⟩,Za,Weak.mk (by simp (disch:=omega) only [ZH,ZD,ZF,Xz,Zr,Zn,go_sem,seval])⟩
  ·have hjd:j=d:=Za
   subst hjd;refine Zp (Weak.fz (o:=0) (by rfl)) ?_;refine Zg [] _ _ _ _ ?_;simp (disch:=omega) only [Zr,Zn,ZX,go_sem,seval];rw [uD,<- ho];exact we
theorem gZ (a b:List Int) (c d:Bool) (ha:a.length<=1048576) (hb:b.length<=1048576):PC 139 [.p (.list c (a.map eI)),.p (.list d (b.map eI))] (.bool (VX a b)):=by
 refine Zd Tryz.func139 rfl ZaC ?_;simp (disch:=omega) only [Tryz.f139,go_sem,seval];refine cD ?_ ?_<;>intro h1<;>simp (disch:=omega) only [Sh.out h1,go_sem,seval]
 ·grind [VX]
 ·have h1':a.length=b.length:=Za
  refine Zm [0,1] (fun k:Nat=> [(5,.p (.int .i64 k))]) (fun _=> []) (fun k=>k<=a.length/\ ∀j,j<k->nth a j<=nth b j) (fun k=>a.length-k) 0 Zb (Weak.mk ?_) ?_
  ·simp (disch:=omega) only [go_sem,seval,↓reduceIte]
  ·rintro k ⟨hk,hno⟩;refine Zc ?_;refine cD ?_ ?_<;>intro h2<;>simp (disch:=omega) only [Sh.out h2,go_sem,seval,↓reduceIte]
   ·have hk2:k<a.length:=Za
    refine Xo (Zc ?_);refine cD ?_ ?_<;>intro h3<;>simp (disch:=omega) only [Sh.out h3,go_sem,seval,↓reduceIte]
    ·grind [VX]
    ·exact ⟨k+1,⟨Za,Zs.2 ⟨hno,Za⟩⟩,Za,wk⟩
   ·have hkl:k=a.length:=Za
    simp_all [VX]
theorem gG (x:Inst) (ht:x.types.length<=1048576):PC 214 [.p (Zv x)] (.int .i64 (dimsOf x.types)):=by
 refine Zd Tryz.func214 rfl Zbj ?_;simp (disch:=omega) only [Tryz.f214,go_sem,seval];refine cD ?_ ?_<;>intro h1<;>simp (disch:=omega) only [Sh.out h1,go_sem,seval,↓reduceIte]
 ·grind [dimsOf]
 simp_all [dimsOf]
structure LdOk (x:Inst):Prop where
 ord:x.orders.length<=10
 typ:x.types.length<=1048576
 dim:1<=dimsOf x.types/\dimsOf x.types<=3
 load: ∀o∈x.orders,(o.load.length:Int)=dimsOf x.types/\ ∀n∈o.load,0<=n/\n<=1000
theorem Qv {x:Inst} (h:InstOk x):LdOk x:=by
 have ht:=h.types.1;simp only [rng,Zq] at ht;have ho:=h.orders
 have h0:0<x.types.length:=Za
 have hcap:=h.types.2 0 h0;unfold Us at hcap;obtain ⟨⟨⟨⟨⟨⟨⟨⟨_,_⟩,_⟩,_⟩,hcap⟩,_⟩,_⟩,_⟩,_⟩:=hcap;simp only [VB,ZB,Zq,rng] at hcap;refine ⟨ho.1,Za,Za,fun o hm=> ?_⟩;obtain ⟨i,hi,rfl⟩:=ZT.1 hm;have:=(ho.2 i hi).load;rw [Zh hi] at this
 simp_all [loadOk,rng]
def GT (x:Inst) (l:List Vis) (n k:Nat):List (Bool×List Int):=((List.range k).filter fun i=>EL x l n i&&hasO l i).map fun i=>((nth x.orders i).load_c,(nth x.orders i).load)
theorem Tz {x:Inst} {l:List Vis} {n k:Nat} :GT x l n (k+1)=GT x l n k++if (EL x l n k&&hasO l k)=true then [((nth x.orders k).load_c,(nth x.orders k).load)] else []:=by
 grind [GT,Yu]
theorem fE {x:Inst} {l:List Vis} {n:Nat} : ∀k,(GT x l n k).length<=k:=fun k=>by
 grind [GT]
theorem pX {x:Inst} {l:List Vis} {n k:Nat} (h:LdOk x) (hk:k<=x.orders.length): ∀p∈GT x l n k,p.2.length=(dimsOf x.types).toNat/\ ∀m∈p.2,0<=m/\m<=1000:=fun p hp=>by
 obtain ⟨i,hi,rfl⟩:=XQ.1 hp;have hi2:=ZL.1 (QA.1 hi).1;have:=h.load _ (Zt (show i<x.orders.length by omega))
 grind
theorem fF {x:Inst} {l:List Vis} {n:Nat} :uD (GT x l n x.orders.length) (dimsOf x.types).toNat=Wd x l n:=by
 unfold uD Wd
 grind [Eh,GT,DR,J8]
def wK (x:Inst) (l:List Vis) (n i k:Nat):Bool:=(l.take (min k n)).foldl (fun on v=>if v.order=(i:Int) then !v.drp else on) (decide ((nth x.orders i).pick.place<0))
def Pk (l:List Vis) (i k:Nat):Bool:=(l.take k).any fun v=>decide (v.order=(i:Int))
theorem kQ {x:Inst} {l:List Vis} {n i k:Nat} (h:k<l.length):wK x l n i (k+1)=if (nth l k).order=(i:Int) then (if k<n then !(nth l k).drp else wK x l n i k) else wK x l n i k:=by
 grind [wK,Yb,Zh]
theorem TZ {l:List Vis} {i k:Nat} (h:k<l.length):Pk l i (k+1)=if (nth l k).order=(i:Int) then true else Pk l i k:=by
 grind [Pk,Yb,Zh]
theorem sH {x:Inst} {l:List Vis} {n i:Nat} (h:n<=l.length):wK x l n i l.length=EL x l n i:=by
 grind [wK,EL]
theorem jB {l:List Vis} {i:Nat} :Pk l i l.length=hasO l i:=by grind [Pk,hasO]
theorem Tb (x:Inst) (l:List Vis) (c:Bool) (n:Nat) (hx:LdOk x) (hl:l.length<=1048576) (hn:n<=l.length) :
  PT 180 [.p (Zv x),.p (.list c (l.map Z9)),.p (.int .i64 (n:Nat))] [.p (.list false ((Wd x l n).map eI)),.p (.int .i64 0)]:=by
 have ho:=hx.ord;refine Zf [15] Tryz.func180 rfl Za1 ?_;simp (disch:=omega) only [Tryz.f180,go_sem,seval];refine Z4 [15] [1,2,3] (fun q:Nat×List (Bool×List Int)=> [(8,.sl 1 0 q.2.length q.2.length),(9,.p (.int .i64 q.1))]) (fun q=> [Zj x,.elems 1 (q.2.map eR)]) (fun q=>q.1<=x.orders.length/\q.2=GT x l n q.1) (fun q=>x.orders.length-q.1) (0,[]) (by simp [GT]) (Weak.ofNil 8 1 rfl Zb (Weak.mk ?_)) ?_
 ·simp (disch:=omega) only [Zj,Zn,ZF,ZK,Zy,go_sem,seval]
 ·rintro ⟨i,o⟩ ⟨hi,hob⟩;simp only at hi hob
  have hol:o.length<=i:=by grind [fE]
  refine Ye ?_;refine cD ?_ ?_<;>intro h1<;>simp (disch:=omega) only [Sh.out h1,go_sem,seval,↓reduceIte]
  ·have hi2:i<x.orders.length:=Za
   refine Zm [1,2,3,8,9] (fun k:Nat=> [(10,.p (.bool (wK x l n i k))),(11,.p (.bool (Pk l i k))),(12,.p (.int .i64 k))]) (fun _=> [Zj x,.elems 1 (o.map eR)]) (fun k=>k<=l.length) (fun k=>l.length-k) 0 Zb (Weak.mk ?_) ?_
   ·simp (disch:=omega) only [Zj,wK,Pk,Nat.zero_min,Q2,UD,List.any_nil,go_sem,seval]
   ·intro k hk;refine Ye ?_;refine cD ?_ ?_<;>intro h2<;>simp (disch:=omega) only [Sh.out h2,go_sem,seval,↓reduceIte]
    ·have hk2:k<l.length:=Za
     have s1:=kQ (x:=x) (n:=n) (i:=i) hk2;have s2:=TZ (i:=i) hk2;refine ZO ?_ ?_<;>intro h3
     ·rw [if_neg h3] at s1 s2;exact ⟨k+1,Za,Za,Weak.mk (by simp (disch:=omega) only [s1,s2,go_sem,seval])⟩
     ·have h3':=Z2.1 h3;rw [if_pos h3'] at s1 s2;refine ZO ?_ ?_<;>intro h4
      ·rw [if_pos Za] at s1;exact ⟨k+1,Za,Za,Weak.mk (by simp (disch:=omega) only [s1,s2,go_sem,seval])⟩
      ·rw [if_neg Za] at s1;exact ⟨k+1,Za,Za,Weak.mk (by simp (disch:=omega) only [s1,s2,go_sem,seval])⟩
    ·have hkl:k=l.length:=Za
     subst hkl;have s3:=Tz (x:=x) (l:=l) (n:=n) (k:=i);rw [sH hn,jB];refine QS ?_ ?_<;>intro h5
     ·refine ZO ?_ ?_<;>intro h6
      ·rw [h5,h6,Bool.and_self,if_pos rfl] at s3;exact ⟨(i+1,o++ [((nth x.orders i).load_c,(nth x.orders i).load)]),⟨Za,by grind⟩,Za,Weak.mk (by simp (disch:=omega) only [ZH,ZD,ZF,Xz,Zr,Zn,go_sem,seval])⟩
      ·rw [h5,h6,Bool.and_false,if_neg Zb,Wp] at s3;exact ⟨(i+1,o),⟨Za,by grind⟩,Za,wk⟩
     ·have h5':EL x l n i=false:=Za
      rw [h5',Qx,if_neg Zb,Wp] at s3;exact ⟨(i+1,o),⟨Za,by grind⟩,Za,wk⟩
  ·have hik:i=x.orders.length:=Za
   subst hik
   have hD:dimsOf x.types=((dimsOf x.types).toNat:Int):=by have:=hx.dim;omega
   have hok:=pX (l:=l) (n:=n) hx (ZA _);rw [<- hob] at hok;have hs:=fF (x:=x) (l:=l) (n:=n);rw [<- hob] at hs;refine Zp (Weak.fz (o:=1) (by rfl)) (Zg [] _ _ _ _ (UM ?_));refine (gG x hx.typ).use (Zc ?_);rw [hD];refine Yg (uC o false (dimsOf x.types).toNat (by have:=hx.dim;omega) Za hok) (Zc ?_);rw [<- hs];exact we
def oB (l:List Int):PV:= .list false (l.map eI)
@[go_sem] theorem zM (l:List Int):oB l= .list false (l.map eI):=Zl rfl rfl
def QB (x:Inst) (l:List Vis):List (List Int):=(List.range (l.length+1)).map (Wd x l)
theorem aB (x:Inst) (r:Rte) (hx:InstOk x) (hl:r.visits.length<=1048576) (h0:Xj x r.visits=0) (hchk:PC 88 [.p (Zv x),.p (WG r)] (.int .i64 (Xj x r.visits))) :
  PT 138 [.p (Zv x),.p (WG r)] [.p (.list false ((QB x r.visits).map oB)),.p (.int .i64 0)]:=by
 have hd:=Qv hx;refine Zf [12] Tryz.func138 rfl ZaB ?_;simp (disch:=omega) only [Tryz.f138,go_sem,seval];refine (hchk).use (Zc ?_);simp (disch:=omega) only [h0,go_sem,seval];refine Z4 [12] [2,3] (fun q:Nat×List (List Int)=> [(7,.sl 2 0 q.2.length q.2.length),(8,.p (.int .i64 q.1))]) (fun q=> [Zj x,Xu r,.elems 1 (q.2.map oB)]) (fun q=>q.1<=r.visits.length+1/\q.2=(List.range q.1).map (Wd x r.visits)) (fun q=>r.visits.length+1-q.1) (0,[]) Zb (Weak.ofNil 7 1 rfl Zb (Weak.mk ?_)) ?_
 ·simp (disch:=omega) only [Zj,Xu,Zn,ZF,ZK,Zy,go_sem,seval]
 ·rintro ⟨k,o⟩ ⟨hk,ho⟩;simp only at hk ho
  have hol:o.length=k:=by rw [ho];simp
  refine K1 ?_;refine cD ?_ ?_<;>intro h1<;>simp (disch:=omega) only [Sh.out h1,go_sem,seval,↓reduceIte]
  ·refine Yg (Tb x r.visits r.visits_c k hd hl Za) (Zc ?_);exact ⟨(k+1,o++ [Wd x r.visits k]),⟨Za,by grind [Yu]⟩,Za,Weak.mk (by simp (disch:=omega) only [ZH,ZD,ZF,Xz,Zr,Zn,go_sem,seval])⟩
  ·have hkl:k=r.visits.length+1:=Za
   subst hkl;refine Zp (Weak.fz (o:=2) (by rfl)) (Zg [] _ _ _ _ (UM ?_));rw [QB,<- ho];exact we
theorem hJ (x:Inst) (r:Rte) (hx:InstOk x) (hl:r.visits.length<=1048576) (hty:0<=r.typ/\r.typ<(x.types.length:Int)) (h0:Xj x r.visits=0) (hchk:PC 88 [.p (Zv x),.p (WG r)] (.int .i64 (Xj x r.visits))) :
  PC 90 [.p (Zv x),.p (WG r)] (.int .i64 (if Qe x (ZE x r).cap r.visits=true then 0 else 17)):=by
 have hd:=Qv hx;have htl:=hd.typ
 have hti:r.typ.toNat<x.types.length:=Za
 have hcp:(nth x.types r.typ.toNat).cap.length<=3:=by
  have hcap:=hx.types.2 _ hti;unfold Us at hcap;obtain ⟨⟨⟨⟨⟨⟨⟨⟨_,_⟩,_⟩,_⟩,hcap⟩,_⟩,_⟩,_⟩,_⟩:=hcap;simp only [VB,ZB,Zq,rng] at hcap;omega
 have hll:(QB x r.visits).length=r.visits.length+1:=by simp [QB]
 have hln: ∀k,k<r.visits.length+1->nth (QB x r.visits) k=Wd x r.visits k:=fun k hk=>by
  grind [Zh,QB]
 have hal: ∀k,(Wd x r.visits k).length<=3:=fun k=>by rw [E5];have:=hd.dim;omega
 have cl:=aB x r hx hl h0 hchk;unfold ZE
 generalize hL:QB x r.visits=L at *
 refine Zd Tryz.func90 rfl ZiU ?_
 have e1: ¬r.typ<0:=Za
 have e2: ¬(x.types.length:Int)<=r.typ:=Za
 simp (disch:=omega) only [Tryz.f90,e1,e2,go_sem,seval];refine Yg cl (Zc ?_);refine Zm [2,3,5] (fun k:Nat=> [(7,.p (.int .i64 k))]) (fun _=> [Zj x,Xu r]) (fun k=>k<=r.visits.length+1/\ ∀j,j<k->VX (Wd x r.visits j) (nth x.types r.typ.toNat).cap=true) (fun k=>r.visits.length+1-k) 0 Zb (Weak.mk ?_) ?_
 ·simp (disch:=omega) only [Zj,Xu,go_sem,seval]
 ·rintro k ⟨hk,hno⟩;simp (disch:=omega) only [Zj,Xu,hll,go_sem,seval];refine cD ?_ ?_<;>intro h1<;>simp (disch:=omega) only [Sh.out h1,go_sem,seval,↓reduceIte]
  ·have hk2:k<r.visits.length+1:=Za
   have hk3:k<L.length:=Za
   have hk4:=hal k;refine Xo ?_;simp (disch:=omega) only [hln k hk2,go_sem,seval];refine Zo (gZ (Wd x r.visits k) (nth x.types r.typ.toNat).cap false (nth x.types r.typ.toNat).cap_c Za Za) (Zc ?_);refine ZO ?_ ?_<;>intro h2
   ·have h2':VX (Wd x r.visits k) (nth x.types r.typ.toNat).cap=false:=by grind
    have: ¬Qe x (nth x.types r.typ.toNat).cap r.visits=true:=fun h=>by
     grind [Qe]
    grind
   ·exact ⟨k+1,⟨Za,Zs.2 ⟨hno,by grind⟩⟩,Za,wk⟩
  ·have:Qe x (nth x.types r.typ.toNat).cap r.visits=true:=by
    grind [Qe]
   grind
def My (j:Nat):Int:=if j=63 then-9223372036854775808 else ((pw j:Nat):Int)
theorem Rv {j:Nat} (h:j<63):My j=((pw j:Nat):Int):=by rw [My,if_neg Za]
theorem ZcX {j:Nat} (h:j<=62):pw j<=4611686018427387904:=by have:=Kh h;rwa [F6] at this
theorem Mz {j:Nat} (h:j<=63):0<My j↔j<63:=by
 grind [My,F7]
theorem wX {S q:Nat} (hS:S<9223372036854775808) (h:q<=S):IntKind.i64.wrap (q:Int)=(q:Int):=by rw [IntKind.wrap_i64];omega
theorem ZcZ {P:Program} {t:TypeId} {S j:Nat} (hS:S<9223372036854775808):Yk P .quo t (.p (.int .i64 (S:Int))) (.p (.int .i64 ((pw j:Nat):Int)))=some (.int .i64 ((S / pw j:Nat):Int)):=by
 have hp:=F7 j;rw [dL Za]
 have e:(S:Int).tdiv ((pw j:Nat):Int)=((S / pw j:Nat):Int):=by
  rfl
 have hle:=Nat.div_le_self S (pw j);rw [e,wX hS hle]
theorem tH {P:Program} {t:TypeId} {S:Nat} :Yk P .rem t (.p (.int .i64 (S:Int))) (.p (.int .i64 2))=some (.int .i64 ((S%2:Nat):Int)):=by
 rfl
theorem Zjx {S j:Nat} (hS:S<9223372036854775808):(IntKind.i64.wrap ((S:Int) / ((pw j:Nat):Int))).tmod 2=((S / pw j%2:Nat):Int):=by
 have hle:=Nat.div_le_self S (pw j)
 grind [wX]
theorem kF {P:Program} {t:TypeId} {j:Nat} (h:j<63):Yk P .mul t (.p (.int .i64 ((pw j:Nat):Int))) (.p (.int .i64 2))=some (.int .i64 (My (j+1))):=by
 grind [dJ,My,ZcX,pw,IntKind.wrap_i64]
theorem dO (t:Typ) (s:Int) (h1:t.skills<9223372036854775808) (h2:s<9223372036854775808):PC 89 [.p (X4 t),.p (.int .i64 s)] (.bool (Yj t s)):=by
 refine Zd Tryz.func89 rfl ZiT ?_;simp (disch:=omega) only [Tryz.f89,go_sem,seval];refine gF ?_ ?_<;>intro c1<;>simp (disch:=omega) only [Sh.out c1,go_sem,seval,↓reduceIte]
 ·grind [Yj]
 ·refine cD ?_ ?_<;>intro c2<;>simp (disch:=omega) only [Sh.out c2,go_sem,seval]
  ·grind [Yj]
  ·obtain ⟨M,hM⟩: ∃M:Nat,t.skills=(M:Int):=⟨t.skills.toNat,Za⟩;obtain ⟨S,rfl⟩: ∃S:Nat,s=(S:Int):=⟨s.toNat,Za⟩
   have hMl:M<9223372036854775808:=Za
   have hSl:S<9223372036854775808:=Za
   have hab: ∀b:Bool,((List.range 63).all fun i=> !S.testBit i||M.testBit i)=b->Yj t (S:Int)=b:=fun b hb=>by
    simp_all [Yj]
   refine Zm [1,2] (fun j:Nat=> [(5,.p (.int .i64 (My j)))]) (fun _=> [Yf t]) (fun j=>j<=63/\ ∀i,i<j->(!S.testBit i||M.testBit i)=true) (fun j=>63-j) 0 Zb (Weak.mk ?_) ?_
   ·simp (disch:=omega) only [Yf,hM,show My 0=1 from rfl,go_sem,seval]
   ·rintro j ⟨hj,hno⟩;simp (disch:=omega) only [Yf,hM,go_sem,seval];refine cD ?_ ?_<;>intro c3<;>simp (disch:=omega) only [Sh.out c3,go_sem,seval,↓reduceIte]
    ·have hj2:j<63:=(Mz hj).1 c3;simp (disch:=omega) only [Rv hj2,Zjx hSl,IP,go_sem,seval];refine gT ?_ ?_<;>intro c4<;>simp (disch:=omega) only [Sh.out c4,Rv hj2,ZcZ hMl,Zjx hSl,tH,kF hj2,IP,IN,go_sem,seval]
     ·refine cD ?_ ?_<;>intro c5<;>simp (disch:=omega) only [Sh.out c5,kF hj2,go_sem,seval]
      ·grind
      ·exact ⟨j+1,⟨Za,Zs.2 ⟨hno,by grind⟩⟩,Za,Weak.mk (by simp (disch:=omega) only [hM,go_sem,seval])⟩
     ·exact ⟨j+1,⟨Za,Zs.2 ⟨hno,by grind⟩⟩,Za,Weak.mk (by simp (disch:=omega) only [hM,go_sem,seval])⟩
    ·have hj63:j=63:=by
      rcases Wr j 63 with h | h
      ·simp_all [Mz]
      ·omega
     simp_all
theorem OR (l:List Vis) (c:Bool) (n:Nat) (hn:n<l.length) (hl:l.length<=1048576):PC 143 [.p (.list c (l.map Z9)),.p (.int .i64 (n:Nat))] (.bool (Ux l n)):=by
 refine Zd Tryz.func143 rfl ZaG ?_;simp (disch:=omega) only [Tryz.f143,go_sem,seval];refine Zm [0,1] (fun k:Nat=> [(5,.p (.int .i64 k))]) (fun _=> []) (fun k=>k<=n/\ ∀j,j<k->(nth l j).order≠(nth l n).order) (fun k=>n-k) 0 Zb (Weak.mk ?_) ?_
 ·simp (disch:=omega) only [go_sem,seval,↓reduceIte]
 ·rintro k ⟨hk,hno⟩;refine Zc ?_;refine cD ?_ ?_<;>intro h1<;>simp (disch:=omega) only [Sh.out h1,go_sem,seval,↓reduceIte]
  ·have hk2:k<n:=Za
   have hk3:k<l.length:=Za
   refine Xo (Zc ?_);refine cD ?_ ?_<;>intro h2<;>simp (disch:=omega) only [Sh.out h2,go_sem,seval,↓reduceIte]
   ·grind [Ux,KK]
   ·exact ⟨k+1,⟨Za,Zs.2 ⟨hno,h2⟩⟩,Za,wk⟩
  ·have hkn:k=n:=Za
   subst hkn
   have:Ux l k=true:=by
    unfold Ux;rw [XN,Vg];intro v hv;obtain ⟨j,j1,j2,rfl⟩:=Qo hv
    grind
   rw [this]
def CY (c m o w:Int):AM.Obj:= .cells [.p (.int .i64 c),.p (.int .i64 m),.p (.int .i64 o),.p (.int .i64 w)]
theorem B1 {x:Inst} {l:List Vis} {t:Int} : ∀n:Nat,(0<=(chgF x l t n).1/\(chgF x l t n).1<=n)/\(0<=(chgF x l t n).2/\(chgF x l t n).2<=n)
 | 0=>by simp [chgF]
 | n+1=>by
  have ih:=B1 (x:=x) (l:=l) (t:=t) n
  grind [chgF]
theorem bN (x:Inst) (r:Rte) (s:She) (hty:0<=r.typ/\r.typ<(x.types.length:Int)) (ho:x.orders.length<=1048576) (ht:x.types.length<=1048576) (hl:r.visits.length<=1048576) (hv:Inr x r.visits)
  (hc:0<=(ZE x r).fixed/\(ZE x r).fixed<=100000/\0<=(ZE x r).perMile/\(ZE x r).perMile<=100/\0<=(ZE x r).perTick/\(ZE x r).perTick<=100) (ho2:0<=(ZE x r).opn/\(ZE x r).opn<=4096)
  (hf: -4096<=s.fin/\s.fin<=8192) (hm:0<=s.miles/\s.miles<=1000000) :
  PC 92 [.p (Zv x),.p (WG r),.p (Fq s)] (Ek (DK x r s)):=by
 have hti:r.typ.toNat<x.types.length:=Za
 unfold DK;have htd:nth x.types r.typ.toNat=ZE x r:=rfl
 generalize ZE x r=t at *
 have e1: ¬r.typ<0:=Za
 have e2: ¬(x.types.length:Int)<=r.typ:=Za
 have p1:0<=t.perMile*s.miles/\t.perMile*s.miles<=100*1000000:=⟨UC Za Za,VJ Za Za Za Za⟩
 have hW: -8192<=s.fin-t.opn/\s.fin-t.opn<=8192:=Za
 have p2: -819200<=t.perTick*(s.fin-t.opn)/\t.perTick*(s.fin-t.opn)<=819200:=by
  generalize s.fin-t.opn=w at hW;have a1:=Bu hW.2 (show 0<=t.perTick by omega);have a2:=Bu hW.1 (show 0<=t.perTick by omega);omega
 have p3: -128<=(s.fin-t.opn).tdiv 64/\(s.fin-t.opn).tdiv 64<=128:=by
  grind
 have p4:0<=(s.fin-t.opn).tdiv 64*(s.fin-t.opn).tdiv 64/\(s.fin-t.opn).tdiv 64*(s.fin-t.opn).tdiv 64<=16384:=by
  generalize (s.fin-t.opn).tdiv 64=q at p3;refine ⟨?_,?_⟩
  ·rcases AB 0 q with h | h
   ·exact UC h h
   ·exact Int.mul_nonneg_of_nonpos_of_nonpos h h
  ·rcases AB 0 q with h | h
   ·have:=VJ p3.2 p3.2 h Za;omega
   ·have h2:0<= -q:=Za
    have:=VJ (show-q<=128 by omega) (show-q<=128 by omega) h2 Za
    grind
 refine Zd Tryz.func92 rfl ZiV ?_;simp (disch:=omega) only [Tryz.f92,e1,e2,htd,go_sem,seval];refine Zm [3,4,6,9] (fun k:Nat=> [(10,.p (.int .i64 k))]) (fun k=> [Zj x,Xu r,.cells [.p (.bool s.rest),.p (.int .i64 s.dep),.p (.list s.times_c (s.times.map eTim)),.p (.int .i64 s.fin),.p (.int .i64 s.miles)],CY 0 0 0 0,Yf t,CY (t.fixed+t.perMile*s.miles+t.perTick*(s.fin-t.opn)) (chgF x r.visits r.typ k).1 (chgF x r.visits r.typ k).2 ((s.fin-t.opn).tdiv 64*(s.fin-t.opn).tdiv 64)]) (fun k=>k<=r.visits.length) (fun k=>r.visits.length-k) 0 Zb (Weak.mk ?_) ?_
 ·simp (disch:=omega) only [Zj,Xu,Yf,CY,chgF,go_sem,seval]
 ·intro k hk;have hch:=B1 (x:=x) (l:=r.visits) (t:=r.typ) k;simp (disch:=omega) only [Zj,Xu,Yf,CY,go_sem,seval];refine cD ?_ ?_<;>intro h1<;>simp (disch:=omega) only [Sh.out h1,go_sem,seval,↓reduceIte]
  ·have hk2:k<r.visits.length:=Za
   obtain ⟨v1,v2⟩:=hv _ (Zt hk2)
   have e3: ¬(nth r.visits k).order<0:=Za
   have e4: ¬(x.orders.length:Int)<=(nth r.visits k).order:=Za
   have v3:(nth r.visits k).order.toNat<x.orders.length:=Za
   simp (disch:=omega) only [e3,e4,go_sem,seval];refine (OR r.visits r.visits_c k hk2 hl).use (Zc ?_);have hcs:chgF x r.visits r.typ (k+1)=_:=chgF.eq_2 x r.visits r.typ k;refine ZO ?_ ?_<;>intro h2
   ·have h2': ¬Ux r.visits k=true:=by grind
    exact ⟨k+1,Za,Za,Weak.mk (by simp (disch:=omega) only [hcs,if_neg h2',go_sem,seval])⟩
   ·have h2':Ux r.visits k=true:=by grind
    refine Xo (Zc ?_);refine gT ?_ ?_<;>intro h3<;>simp (disch:=omega) only [Sh.out h3,go_sem,seval,↓reduceIte]
    ·refine cD ?_ ?_<;>intro h4<;>simp (disch:=omega) only [Sh.out h4,go_sem,seval,↓reduceIte]
     ·have hn:Xq (nth x.orders (nth r.visits k).order.toNat).now r.typ=true:=by simp [Xq,h3,h4]
      refine Xo (Zc ?_);refine QS ?_ ?_<;>intro h5
      ·refine ZO ?_ ?_<;>intro h6
       ·have hl2:Xq (nth x.orders (nth r.visits k).order.toNat).last r.typ=true:=by simp [Xq,h5,h6]
        exact ⟨k+1,Za,Za,Weak.mk (by simp (disch:=omega) only [hcs,if_pos h2',hn,hl2,go_sem,seval,↓reduceIte])⟩
       ·have hl2:Xq (nth x.orders (nth r.visits k).order.toNat).last r.typ=false:=by simp_all [Xq]
        exact ⟨k+1,Za,Za,Weak.mk (by simp (disch:=omega) only [hcs,if_pos h2',hn,hl2,UE,YU,go_sem,seval,↓reduceIte])⟩
      ·have hl2:Xq (nth x.orders (nth r.visits k).order.toNat).last r.typ=false:=by simp_all [Xq]
       exact ⟨k+1,Za,Za,Weak.mk (by simp (disch:=omega) only [hcs,if_pos h2',hn,hl2,UE,YU,go_sem,seval,↓reduceIte])⟩
     ·have hn:Xq (nth x.orders (nth r.visits k).order.toNat).now r.typ=false:=by simp_all [Xq]
      refine Xo (Zc ?_);refine QS ?_ ?_<;>intro h5
      ·refine ZO ?_ ?_<;>intro h6
       ·have hl2:Xq (nth x.orders (nth r.visits k).order.toNat).last r.typ=true:=by simp [Xq,h5,h6]
        exact ⟨k+1,Za,Za,Weak.mk (by simp (disch:=omega) only [hcs,if_pos h2',hn,hl2,UE,YU,go_sem,seval,↓reduceIte])⟩
       ·have hl2:Xq (nth x.orders (nth r.visits k).order.toNat).last r.typ=false:=by grind
        exact ⟨k+1,Za,Za,Weak.mk (by simp (disch:=omega) only [hcs,if_pos h2',hn,hl2,UE,YU,go_sem,seval,↓reduceIte])⟩
      ·have hl2:Xq (nth x.orders (nth r.visits k).order.toNat).last r.typ=false:=by simp_all [Xq]
       exact ⟨k+1,Za,Za,Weak.mk (by simp (disch:=omega) only [hcs,if_pos h2',hn,hl2,UE,YU,go_sem,seval,↓reduceIte])⟩
    ·have hn:Xq (nth x.orders (nth r.visits k).order.toNat).now r.typ=false:=by simp_all [Xq]
     refine Xo (Zc ?_);refine QS ?_ ?_<;>intro h5
     ·refine ZO ?_ ?_<;>intro h6
      ·have hl2:Xq (nth x.orders (nth r.visits k).order.toNat).last r.typ=true:=by simp [Xq,h5,h6]
       exact ⟨k+1,Za,Za,Weak.mk (by simp (disch:=omega) only [hcs,if_pos h2',hn,hl2,UE,YU,go_sem,seval,↓reduceIte])⟩
      ·have hl2:Xq (nth x.orders (nth r.visits k).order.toNat).last r.typ=false:=by simp_all [Xq]
       exact ⟨k+1,Za,Za,Weak.mk (by simp (disch:=omega) only [hcs,if_pos h2',hn,hl2,UE,YU,go_sem,seval,↓reduceIte])⟩
     ·have hl2:Xq (nth x.orders (nth r.visits k).order.toNat).last r.typ=false:=by grind
      exact ⟨k+1,Za,Za,Weak.mk (by simp (disch:=omega) only [hcs,if_pos h2',hn,hl2,UE,YU,go_sem,seval,↓reduceIte])⟩
  grind
theorem SqOk.len {x:Inst} {l:List Vis} (h:SqOk x l) (hn:x.orders.length<=10):l.length<=20:=by
 have h1:=List.Nodup.length_le_of_subset (l₁ :=l) (l₂ :=(List.range 10).flatMap fun i:Nat=> [(⟨(i:Int),false⟩:Vis),⟨(i:Int),true⟩]) h.nd (fun v hv=>by
  obtain ⟨v1,v2⟩:=h.inr v hv;rw [XU];refine ⟨v.order.toNat,ZL.2 Za,?_⟩;obtain ⟨o,d⟩:=v
  have e:((o.toNat:Nat):Int)=o:=by grind
  simp_all)
 have h2:((List.range 10).flatMap fun i:Nat=> [(⟨(i:Int),false⟩:Vis),⟨(i:Int),true⟩]).length=20:=rfl;omega
theorem SqOk.vis {x:Inst} {l:List Vis} (h:SqOk x l) {v:Vis} (hv:v∈l):K7 x v=true:=by
 obtain ⟨v1,v2⟩:=h.inr v hv;obtain ⟨i,hi⟩: ∃i:Nat,v.order=(i:Int):=⟨v.order.toNat,Za⟩;have ho:=h.own (i:=i) ⟨v,hv,hi⟩
 have hpl:0<=(Xk x v).place:=by
  unfold Xk;rw [hi,XO]
  cases hd:v.drp with
  | true=>exact ho.isD (by rw [<- hi,<- hd];exact hv)
  | false=>exact ho.isP (by rw [<- hi,<- hd];exact hv)
 simp [K7,M6,v1,v2,hpl]
theorem sZ {x:Inst} {r:Rte} (h:SqOk x r.visits) (hn:x.orders.length<=10) (ht:0<=r.typ/\r.typ<(x.types.length:Int)):Up x r=(decide (0<=r.start)&&decide (r.start<=4096)):=by
 have h1:r.visits.all (K7 x)=true:=Zz.2 fun v hv=>h.vis hv;have h2:=h.len hn
 grind [Up]
theorem So {n:Net} (h:netOk n):netR n/\ ∀a∈n.arcs,0<=a.miles/\a.miles<=10000:=by
 obtain ⟨⟨⟨h1,_⟩,h2⟩,h3⟩:=h
 have ha: ∀a∈n.arcs,oV a/\0<=a.miles/\a.miles<=10000:=fun a hm=>by
  obtain ⟨i,hi,rfl⟩:=ZT.1 hm;have:=h3 i hi;unfold Mo at this;rw [Zh hi] at this;obtain ⟨⟨⟨⟨⟨_,g1⟩,_⟩,g2⟩,g3⟩,g4⟩:=this;refine ⟨⟨g2,g3,fun p hp=> ?_⟩,g1.2.2.1,g1.2.2.2.1⟩;obtain ⟨j,hj,rfl⟩:=ZT.1 hp
  simp_all [KZ,Zh,LZ,rng]
 exact ⟨⟨Za,Za,fun a hm=>(ha a hm).1⟩,fun a hm=>(ha a hm).2⟩
theorem WS {x:Inst} (hx:InstOk x) {i:Nat} (hi:i<x.types.length):(0<=(nth x.types i).opn/\(nth x.types i).opn<=(nth x.types i).cls/\(nth x.types i).cls<=4096)/\(1<=(nth x.types i).drive/\(nth x.types i).drive<=4096)/\(0<=(nth x.types i).rest/\(nth x.types i).rest<=4096) /\
  (0<=(nth x.types i).fixed/\(nth x.types i).fixed<=100000/\0<=(nth x.types i).perMile/\(nth x.types i).perMile<=100/\0<=(nth x.types i).perTick/\(nth x.types i).perTick<=100)/\(0<=(nth x.types i).skills/\(nth x.types i).skills<=1073741823):=by
 have ht:=hx.types.2 i hi
 simp_all [Us,rng]
theorem K4 {x:Inst} {r:Rte} (hx:InstOk x) (ht:0<=r.typ/\r.typ<(x.types.length:Int)) (h:SqOk x r.visits):TrpOk x (ZE x r) (ZM x r.visits):=by
 have hti:r.typ.toNat<x.types.length:=Za
 obtain ⟨t1,t2,t3,_⟩:=WS hx hti;obtain ⟨n1,n2⟩:=So hx.net;refine ⟨n1,n2,t1,t2,t3,fun s hs=> ?_,by rw [Yc];exact h.len hx.orders.1⟩;obtain ⟨v,hv,rfl⟩:=XQ.1 hs;obtain ⟨v1,v2⟩:=h.inr v hv
 have hi:v.order.toNat<x.orders.length:=Za
 have ho:=hx.orders.2 _ hi;have hvis:=h.vis hv;have hp:=ho.pstp;have hd:=ho.dstp;simp only [stpOk,Zq] at hp hd;simp only [K7,ZB,Zq] at hvis;have h3:=hvis.2;unfold Xk at h3 ⊢
 grind
theorem NO {x t sp} (h:TrpOk x t sp): ∀(bs:List Bool) (k:Nat) (L:Lab),k+bs.length=sp.length+1->LabR k L->(Xf x t sp k L bs).2=0->LabR (sp.length+1) (Xf x t sp k L bs).1/\(bs≠ []->(Xf x t sp k L bs).1.she.fin=(Xf x t sp k L bs).1.ready)
 | [],k,L,hk,hl,h0=>by
  simp at hk;subst hk;exact ⟨hl,fun h=>absurd rfl h⟩
 | b::bs,k,L,hk,hl,h0=>by
  simp at hk;rw [Xf] at h0 ⊢
  split at h0
  ·rename_i c;rw [if_pos c];obtain ⟨h1,h2⟩:=NO h bs (k+1) _ Za (Ls h Za hl c) h0;refine ⟨h1,fun _=> ?_⟩
   cases bs with
   | nil =>
    simp at hk;subst hk;exact Ns (x:=x) (t:=t) (sp:=sp) (y:=L) (b:=b) (by rw [XA,if_pos c];rfl)
   | cons b2 bs=>grind
  omega
theorem Fk {x t sp} {st:Int} {r:List Bool} (h:TrpOk x t sp) (hs:0<=st/\st<=4096) (hr:r.length<=sp.length+1) (h0:(Yn x t sp st r).2=0):(0<=(Yn x t sp st r).1.fin/\(Yn x t sp st r).1.fin<=8192)/\(0<=(Yn x t sp st r).1.miles/\(Yn x t sp st r).1.miles<=210000):=by
 have hL0:LabR 0 (labF t st):=⟨by have:=h.opn;grind [labF],by simp [labF],by simp [labF,zShe]⟩;have hl:=h.len
 have key: ∀bs∈XE r (sp.length+1),(Xf x t sp 0 (labF t st) bs).2=0->(0<=(Xf x t sp 0 (labF t st) bs).1.she.fin/\(Xf x t sp 0 (labF t st) bs).1.she.fin<=8192)/\(0<=(Xf x t sp 0 (labF t st) bs).1.she.miles/\(Xf x t sp 0 (labF t st) bs).1.she.miles<=210000):=fun bs hbs he=>by
  obtain ⟨q,hq,rfl⟩:=XQ.1 hbs;have hql:=bestF_len.fromB_len _ _ hq;simp at hql
  have hne:r++q≠ []:=fun e=>by
   simp_all
  obtain ⟨g1,g2⟩:=NO h (r++q) 0 _ (by simp;omega) hL0 he;rw [g2 hne];have:=g1.rdy;have:=g1.mil;omega
 unfold Yn at h0 ⊢
 cases hf:W4 Wf none ((XE r (sp.length+1)).filterMap (Y9 (XA x t sp) 0 (labF t st))) with
 | some L =>
  simp only;have:=bestF_len.fmL_mem _ _ hf
  grind [Yy]
 | none =>
  grind [zShe]
theorem Tu (x:Inst) (r:Rte) (ho:x.orders.length<=1048576) (ht:x.types.length<=1048576) (hl:r.visits.length<=1048576) (hbad:Up x r=false\/r.visits.length+1<r.rests.length) :
  PT 91 [.p (Zv x),.p (WG r)] [.p (Fq zShe),.p (.int .i64 2)]:=by
 refine Zf [] Tryz.func91 rfl wC ?_;simp (disch:=omega) only [Tryz.f91,go_sem,seval];refine (F4 x r ho ht hl).use (Zc ?_);refine gF ?_ ?_<;>intro h1<;>simp (disch:=omega) only [Sh.out h1,go_sem,seval,↓reduceIte]
 ·exact we (by simp (disch:=omega) only [zShe,Zn,go_sem,seval])
 ·have h2:r.visits.length+1<r.rests.length:=hbad.resolve_left (by grind);refine cD ?_ ?_<;>intro h3<;>simp (disch:=omega) only [Sh.out h3,go_sem,seval,↓reduceIte]
  ·exact we (by simp (disch:=omega) only [zShe,Zn,go_sem,seval])
  ·omega
theorem qD (x:Inst) (r:Rte) (hx:InstOk x) (hl:r.visits.length<=1048576):PC 88 [.p (Zv x),.p (WG r)] (.int .i64 (Xj x r.visits)):=by
 have hf:=XJ hx;have hr:=hx.rules;obtain ⟨h1,h2⟩:=V5.1 hr
 have ha:x.apart.length<=1048576:=by
  have h3:=(V5.1 h1).1
  grind [G4]
 have hb:x.before.length<=1048576:=by
  have h3:=(V5.1 h2).1
  grind [G4]
 have:=PP x r (by have:=hf.len;omega) hl ha hb hf.plc
 grind [tE]
def B5 (x:Inst) (r:Rte):V:= .tup [.p (Fq (X7 x r)),.p (Ek (We x r)),.p (.int .i64 (Xw x r))]
theorem YE {x:Inst} {r:Rte} {e:Int} (h:Xw x r=e) (h0:e≠0):B5 x r= .tup [.p (Fq zShe),.p (Ek zSco),.p (.int .i64 e)]:=by
 simp_all [B5,X7,We]
theorem B6 (x:Inst) (r:Rte) (hx:InstOk x) (hl:r.visits.length<=1048576) (hrl:r.rests.length<=1048576):ACalls Tryz.prog 54 [.p (Zv x),.p (WG r)] [] fun y H'=>y=B5 x r/\H'= []:=by
 have hld:=Qv hx;have htl:=hld.typ;have hol:=hld.ord;have chk:=qD x r hx hl
 have htb:x.types.length<=6:=by have:=hx.types.1;simp only [rng,Zq] at this;omega
 refine Zf [] Tryz.func54 rfl Zis ?_;simp (disch:=omega) only [Tryz.f54,go_sem,seval];refine gF ?_ ?_<;>intro h1<;>simp (disch:=omega) only [Sh.out h1,go_sem,seval,↓reduceIte]
 ·have e:XX x r=2:=by rw [XX,if_pos Za]
  rw [YE (e:=2) (by rw [Xw,e];rfl) Za];exact we (by simp (disch:=omega) only [zShe,zSco,Zn,go_sem,seval])
 ·refine cD ?_ ?_<;>intro h2<;>simp (disch:=omega) only [Sh.out h2,go_sem,seval,↓reduceIte]
  ·have e:XX x r=2:=by simp_all [XX]
   rw [YE (e:=2) (by rw [Xw,e];rfl) Za];exact we (by simp (disch:=omega) only [zShe,zSco,Zn,go_sem,seval])
  ·have hty:0<=r.typ/\r.typ<(x.types.length:Int):=Za
   have hti:r.typ.toNat<x.types.length:=Za
   refine (chk).use (Zc ?_);refine cD ?_ ?_<;>intro h3<;>simp (disch:=omega) only [Sh.out h3,go_sem,seval,↓reduceIte]
   ·have e:XX x r=Xj x r.visits:=by simp_all [XX]
    rw [YE (e:=Xj x r.visits) (by simp_all [Xw]) h3];exact we (by simp (disch:=omega) only [zShe,zSco,Zn,go_sem,seval])
   ·have h3':=Z2.1 h3;have hsq:=VS h3'
    have hvn:0<r.visits.length:=by
     have:=hsq.ne
     grind
    have hok:=K4 hx hty hsq;have hnum:=WS hx hti
    have hr0:XX x r=if (r.visits.any fun v=> !Yj (ZE x r) (nth x.orders v.order.toNat).skills)=true then 18 else if Qe x (ZE x r).cap r.visits=false then 17 else if ¬(0<=r.start/\r.start<=4096/\r.rests.length<=r.visits.length+1) then 2 else 0:=by
     rw [XX,if_neg (fun h=>h hty),if_neg h3]
    have htyp:nth x.types r.typ.toNat=ZE x r:=rfl;rw [htyp] at hnum;have hf17:=hJ x r hx hl hty h3' chk;have hposs:=sZ hsq hol hty
    have hsk: ∀k,k<r.visits.length->(nth r.visits k).order.toNat<x.orders.length/\0<=(nth x.orders (nth r.visits k).order.toNat).skills/\(nth x.orders (nth r.visits k).order.toNat).skills<=1073741823:=fun k hk=>by
     obtain ⟨v1,v2⟩:=hsq.inr _ (Zt hk)
     have hi:(nth r.visits k).order.toNat<x.orders.length:=Za
     exact ⟨hi,(hx.orders.2 _ hi).skills⟩
    refine Zm [2,3,4,5] (fun k:Nat=> [(8,.p (.int .i64 k))]) (fun _=> [Zj x,Xu r,.cells [.p (.bool false),.p (.int .i64 0),.p (.list true []),.p (.int .i64 0),.p (.int .i64 0)],CY 0 0 0 0])
     (fun k=>k<=r.visits.length/\ ∀j,j<k->Yj (ZE x r) (nth x.orders (nth r.visits j).order.toNat).skills=true) (fun k=>r.visits.length-k) 0 Zb (Weak.mk ?_) ?_
    ·simp (disch:=omega) only [Zj,Xu,CY,go_sem,seval]
    ·rintro k ⟨hk,hno⟩;simp (disch:=omega) only [Zj,Xu,CY,go_sem,seval];refine cD ?_ ?_<;>intro h4<;>simp (disch:=omega) only [Sh.out h4,go_sem,seval,↓reduceIte]
     ·have hk2:k<r.visits.length:=Za
      obtain ⟨s1,s2,s3⟩:=hsk k hk2;obtain ⟨v1,v2⟩:=hsq.inr _ (Zt hk2);refine Xo ?_;simp (disch:=omega) only [htyp,go_sem,seval];refine Zo (dO (ZE x r) (nth x.orders (nth r.visits k).order.toNat).skills Za Za) (Zc ?_);refine ZO ?_ ?_<;>intro h5
      ·have e:XX x r=18:=by
        rw [hr0,if_pos]
        grind [Zt]
       rw [YE (e:=18) (by rw [Xw,e];rfl) Za];exact we (by simp (disch:=omega) only [zShe,zSco,Zn,go_sem,seval])
      ·exact ⟨k+1,⟨Za,Zs.2 ⟨hno,by grind⟩⟩,Za,wk⟩
     ·have hkl:k=r.visits.length:=Za
      subst hkl
      have hall: ¬(r.visits.any fun v=> !Yj (ZE x r) (nth x.orders v.order.toNat).skills)=true:=fun h=>by
       obtain ⟨v,hv,hb⟩:=WL.1 h;obtain ⟨j,hj,rfl⟩:=ZT.1 hv
       grind [Zh]
      rw [if_neg hall] at hr0;refine (hf17).use (Zc ?_)
      cases hlb:Qe x (ZE x r).cap r.visits with
      | false =>
       have e:XX x r=17:=by grind
       simp only [YU,Yi];refine Zc ?_;rw [YE (e:=17) (by rw [Xw,e];rfl) Za];exact we (by simp (disch:=omega) only [zShe,zSco,Zn,go_sem,seval])
      | true =>
       rw [hlb,if_neg Zb] at hr0;simp only [if_true];refine Zc ?_
       by_cases h6:0<=r.start/\r.start<=4096/\r.rests.length<=r.visits.length+1
       ·have e:XX x r=0:=Za
        have hp:Up x r=true:=by grind
        have ee:Xw x r=(Xv x r).2:=by rw [Xw,if_pos e]
        have cb:=eZ x r hok Za htl hvn hp h6.2.2;have hbr:=Fk hok ⟨h6.1,h6.2.1⟩ (by rw [Yc];exact h6.2.2);have hbr:(Xv x r).2=0->_:=hbr
        change (Xv x r).2=0->(0<=(Xv x r).1.fin/\(Xv x r).1.fin<=8192)/\(0<=(Xv x r).1.miles/\(Xv x r).1.miles<=210000) at hbr
        have es:X7 x r=if (Xv x r).2=0 then (Xv x r).1 else zShe:=by rw [X7,ee]
        have ep:We x r=if (Xv x r).2=0 then DK x r (Xv x r).1 else zSco:=by rw [We,ee]
        unfold B5;rw [ee,es,ep];clear ee es ep
        generalize Xv x r=q at *
        obtain ⟨sh,eb⟩:=q;simp only at cb hbr ⊢;refine Yg cb (Zc ?_);refine cD ?_ ?_<;>intro h7<;>simp (disch:=omega) only [Sh.out h7,go_sem,seval,↓reduceIte]
        ·exact we (by simp (disch:=omega) only [zShe,zSco,Zn,go_sem,seval])
        ·have h7':=Z2.1 h7
         try rw [if_pos h7',if_pos h7']
         subst h7';obtain ⟨g1,g2⟩:=hbr rfl;refine ZC 5 mixed Ze Ze (Zc ?_);refine Zo (bN x r sh hty Za htl hl hsq.inr hnum.2.2.2.1 Za Za Za) (Zc ?_);exact we
       ·have e:XX x r=2:=Za
        rw [YE (e:=2) (by rw [Xw,e];rfl) Za];refine Yg (Tu x r Za htl hl ?_) ?_
        ·grind
        ·refine Zc ?_;exact we (by simp (disch:=omega) only [zShe,zSco,Zn,go_sem,seval])
theorem cM (x:Inst) (r:Rte) (hx:InstOk x) (hl:r.visits.length<=1048576) (hrl:r.rests.length<=1048576):PC 86 [.p (Zv x),.p (WG r)] (.int .i64 (Xw x r)):=by
 have ce:=B6 x r hx hl hrl;refine Zd Tryz.func86 rfl ZiR ?_;simp (disch:=omega) only [Tryz.f86,go_sem,seval];unfold B5 at ce;refine Oh ce ?_;simp (disch:=omega) only [go_sem,seval,↓reduceIte]
theorem Zc7 {p q:Pt} {t:Int} (h1:p.t<=t) (h2:t<q.t) (hp:p.t<=p.a) (hq:q.t<=q.a):t<=Hb p q t:=by
 unfold Hb
 have hw:0<q.t-p.t:=Za
 have key:(t-p.a)*(q.t-p.t)<=(t-p.t)*(q.a-p.a)+q.t-p.t-1:=by
  have e:(t-p.t)*(q.a-p.a)-(t-p.a)*(q.t-p.t)=(t-p.t)*(q.a-q.t)+(p.a-p.t)*(q.t-t):=by
   grind
  have h3:0<=(t-p.t)*(q.a-q.t):=UC Za Za;have h4:0<=(p.a-p.t)*(q.t-t):=UC Za Za;omega
 have:=Int.le_ediv_of_mul_le hw key;omega
theorem oY {l:List Pt} {t:Int} (hl:W9 l):t<=JB l t:=by
 obtain ⟨⟨hl1,hl2⟩,hpt⟩:=hl;unfold JB
 split
 ·rename_i i hi;have hm:=QY hi;have hs:=Qy hi;simp at hm;simp only [Q7,ZB,Zq] at hs;obtain ⟨⟨p1,p2,p3,p4⟩,_⟩:=hpt i Za;obtain ⟨⟨q1,q2,q3,q4⟩,q5⟩:=hpt (i+1) Za
  simp_all [Zc7]
 ·obtain ⟨⟨p1,p2,p3,p4⟩,_⟩:=hpt 0 Za;obtain ⟨⟨q1,q2,q3,q4⟩,_⟩:=hpt (l.length-1) Za;omega
theorem iW {n:Net} {pr f t τ:Int} (hn:netR n) (h:(WZ n pr f t τ).2.2=0):τ<=(WZ n pr f t τ).1:=by
 unfold WZ at h ⊢
 split at h
 ·simp at h
 ·rename_i c1;rw [if_neg c1]
  split at h
  ·grind
  ·rename_i c2;rw [if_neg c2]
   split at h
   ·rename_i c3;rw [if_pos c3];have hA:=Ah c3;have h1:=oY (t:=τ) (hn.2.2 _ hA).1;have h2:=Ju (t:=τ) (fun p hp=>((hn.2.2 _ hA).2.2 p hp).2.2) _ (ZA _)
    grind [IE]
   ·simp at h
theorem Hj {x t sp} {st:Int} {r:List Bool} (hr:r.length<=sp.length+1) (h:(Yn x t sp st r).2=0): ∃bs:List Bool,bs.length=sp.length+1/\(Xf x t sp 0 (labF t st) bs).2=0/\(Yn x t sp st r).1=(Xf x t sp 0 (labF t st) bs).1.she:=by
 unfold Yn at h ⊢
 cases hf:W4 Wf none ((XE r (sp.length+1)).filterMap (Y9 (XA x t sp) 0 (labF t st))) with
 | none =>
  rw [hf] at h;simp only at h ⊢;exfalso
  have hm:YM r (sp.length+1)∈XE r (sp.length+1):=by
   grind [XE,YM,fromB_next]
  have h2:Y9 (XA x t sp) 0 (labF t st) (YM r (sp.length+1))=some (Xf x t sp 0 (labF t st) (YM r (sp.length+1))).1:=by rw [Yy,if_pos h]
  have h3:(Xf x t sp 0 (labF t st) (YM r (sp.length+1))).1∈(XE r (sp.length+1)).filterMap (Y9 (XA x t sp) 0 (labF t st)):=KH.2 ⟨_,hm,h2⟩;generalize (XE r (sp.length+1)).filterMap (Y9 (XA x t sp) 0 (labF t st))=l at hf h3
  cases l with
  | nil=>simp at h3
  | cons a l =>
   rw [W4] at hf;obtain ⟨z,e,_⟩:=VD Wf l a
   grind
 | some L =>
  simp only;have hm:=bestF_len.fmL_mem _ _ hf;obtain ⟨bs,hbs,hrun⟩:=KH.1 hm;rw [Yy] at hrun
  split at hrun
  ·rename_i h5;simp at hrun;subst hrun;obtain ⟨q,hq,rfl⟩:=XQ.1 hbs;have hql:=bestF_len.fromB_len _ _ hq
   grind
  ·cases hrun
structure Sr where
 rdy:Int
 drv:Int
 deriving Inhabited,DecidableEq
def UK (l:List Sr) (s:Sr):List Sr:=if s∈l then l else l++ [s]
def VP (t:Typ) (l:List Sr) (d v:Int):List Sr:=UK (UK l ⟨d,v⟩) ⟨d+t.rest,0⟩
def Jx (x:Inst) (t:Typ) (from':Int) (stop:Stp) (out:List Sr) (a:Sr):List Sr :=
 if ¬(WZ x.net t.prof from' stop.place a.rdy).2.2=0\/t.drive<a.drv+(WZ x.net t.prof from' stop.place a.rdy).1-a.rdy then out
 else if stop.cls<max (WZ x.net t.prof from' stop.place a.rdy).1 stop.opn then out
 else VP t out (max (WZ x.net t.prof from' stop.place a.rdy).1 stop.opn+stop.serv) (a.drv+(WZ x.net t.prof from' stop.place a.rdy).1-a.rdy)
def DU (x:Inst) (t:Typ) (from':Int) (st:List Sr) (stop:Stp):List Sr:=st.foldl (Jx x t from' stop) []
theorem T7 {l:List Sr} {s a:Sr} :a∈UK l s↔a∈l\/a=s:=by
 grind [UK]
theorem Vl {t:Typ} {l:List Sr} {d v:Int} {a:Sr} :a∈VP t l d v↔a∈l\/a=⟨d,v⟩\/a=⟨d+t.rest,0⟩:=by
 simp [VP,T7,or_assoc]
theorem RE {n:Nat} (h:n<10):dec n= [UInt8.ofNat (48+n)]:=by rw [dec,dif_pos h]
theorem qL {n:Nat} (h:10<=n) (h2:n<100):dec n= [UInt8.ofNat (48+n / 10),UInt8.ofNat (48+n%10)]:=by
 rw [dec,dif_neg Za,RE Za];rfl
theorem Mq {s:List UInt8} {k k':IntKind} {a b:Int} (h:0<=a/\a<=b/\b<=(s.length:Int)):IG (some .string) s (.p (.int k a)) (.p (.int k' b))=some (.p (.str ((s.take b.toNat).drop a.toNat))):=by
 simp_all [IG]
def digT : List UInt8:=(List.range 36).map fun i=>UInt8.ofNat (if i<10 then 48+i else 87+i)
def smalT : List UInt8:=(List.range 100).flatMap fun i=> [UInt8.ofNat (48+i / 10),UInt8.ofNat (48+i%10)]
theorem qM : ∀n,n<10->(digT.take (n+1)).drop n= [UInt8.ofNat (48+n)]:=by decide
theorem mT : ∀n,n<100->(smalT.take (2*n+2)).drop (2*n)= [UInt8.ofNat (48+n / 10),UInt8.ofNat (48+n%10)]:=by decide+kernel
theorem tU (n:Nat) (hn:n<100):PC 298 [.p (.int .i64 (n:Int))] (.str (dec n)):=by
 refine Zd Tryz.func298 rfl Zcz ?_;simp (disch:=omega) only [Tryz.f298,go_sem,seval];refine cD ?_ ?_<;>intro h<;>simp (disch:=omega) only [Sh.out h,go_sem,seval]
 ·rw [RE Za,Mq (by simp;omega)]
  have e1:((n:Int)+1).toNat=n+1:=Za
  have e2:((n:Int)).toNat=n:=Za
  rw [e1,e2];refine (ZU (fun z=>Bz (some (V.p (PV.str z))) _) (qM n Za)).mpr ?_;simp (disch:=omega) only [go_sem,seval]
 ·rw [qL Za hn,Mq (by simp;omega)]
  have e1:((n:Int)*2+2).toNat=2*n+2:=Za
  have e2:((n:Int)*2).toNat=2*n:=Za
  rw [e1,e2];refine (ZU (fun z=>Bz (some (V.p (PV.str z))) _) (mT n Za)).mpr ?_;simp (disch:=omega) only [go_sem,seval]
theorem iK (n:Nat) (hn:n<100):PC 297 [.p (.int .i64 (n:Int)),.p (.int .i64 10)] (.str (dec n)):=by
 refine Zd Tryz.func297 rfl Zcy ?_
 have h0:(0:Int)<=(n:Int):=Za
 have h1:(n:Int)<100:=Za
 simp (disch:=omega) only [Tryz.f297,h0,h1,go_sem,seval];refine (tU n hn).use ?_;simp (disch:=omega) only [go_sem,seval]
theorem rQ (n:Nat) (hn:n<100):PC 296 [.p (.int .i64 (n:Int))] (.str (dec n)):=by
 refine Zd Tryz.func296 rfl Zcx ?_;simp (disch:=omega) only [Tryz.f296,go_sem,seval];refine (iK n hn).use ?_;simp (disch:=omega) only [go_sem,seval]
theorem ZcA (n:Nat) (hn:n<100):PC 295 [.p (.int .i64 (n:Int))] (.str (dec n)):=by
 refine Zd Tryz.func295 rfl Zcw ?_;simp (disch:=omega) only [Tryz.f295,go_sem,seval];refine (rQ n hn).use ?_;simp (disch:=omega) only [go_sem,seval]
theorem Om (n a b:Int):PC 282 [.p (.int .i64 n),.p (.int .i64 a),.p (.int .i64 b)] (.bool (decide (a<=n)&&decide (n<=b))):=by
 refine Zd Tryz.func282 rfl Zcj ?_;simp (disch:=omega) only [Tryz.f282,go_sem,seval]
 repeat' (first | (refine gT ?_ ?_<;>intro hq<;>simp (disch:=omega) only [Sh.out hq,go_sem,seval,↓reduceIte]) | (refine Ue (fun hq=> ?_) (fun hq=> ?_)<;>(try simp only [Zq,X2,Z2] at hq)<;>simp (disch:=omega) only [Sh.out hq,go_sem,seval]) | (refine UO (fun hq=> ?_) (fun hq=> ?_)<;>(try simp only [Zq,X2,Z2] at hq)<;>simp (disch:=omega) only [Sh.out hq,go_sem,seval]))
 all_goals (simp;first | done | omega)
theorem kY (l:List Pt) (c:Bool) (hl:W9 l):PC 292 [.p (.list c (l.map Hq))] (.list true []):=by
 obtain ⟨⟨hl1,hl2⟩,hpt⟩:=hl;refine Zd Tryz.func292 rfl Zct ?_
 have e1: ¬(l.length:Int)=0:=Za
 have e2: ¬(16:Int)<(l.length:Int):=Za
 simp (disch:=omega) only [Tryz.f292,e1,e2,go_sem,seval];refine Zm [0,19,20] (fun k:Nat=> [(3,.p (.list true [])),(21,.p (.int .i64 k))]) (fun _=> []) (fun k=>k<=l.length) (fun k=>l.length-k) 0 Zb (Weak.mk ?_) ?_
 ·simp (disch:=omega) only [go_sem,seval,↓reduceIte]
 ·intro k hk;refine Zc ?_;refine cD ?_ ?_<;>intro h<;>simp (disch:=omega) only [Sh.out h,go_sem,seval,↓reduceIte]
  ·have hk2:k<l.length:=Za
   obtain ⟨⟨p1,p2,p3,p4⟩,q⟩:=hpt k hk2;refine (ZcA k Za).use (Zc ?_);refine (Om (nth l k).t 0 4096).use (Zc ?_);simp (disch:=omega) only [p1,p2,go_sem,seval];refine gF ?_ ?_<;>intro h3<;>simp (disch:=omega) only [Sh.out h3,go_sem,seval,↓reduceIte]
   ·omega
   ·refine cD ?_ ?_<;>intro h4<;>simp (disch:=omega) only [Sh.out h4,go_sem,seval,↓reduceIte]
    ·omega
    ·refine Xo (Zc ?_);refine gT ?_ ?_<;>intro h5<;>simp (disch:=omega) only [Sh.out h5,go_sem,seval,↓reduceIte]
     ·obtain ⟨r1,r2⟩:=q Za;refine gF ?_ ?_<;>intro h6<;>simp (disch:=omega) only [Sh.out h6,go_sem,seval,↓reduceIte]
      ·omega
      ·refine cD ?_ ?_<;>intro h7<;>simp (disch:=omega) only [Sh.out h7,go_sem,seval,↓reduceIte]
       ·omega
       ·exact ⟨k+1,Za,Za,wk⟩
     ·exact ⟨k+1,Za,Za,wk⟩
theorem RB (p:Pt) (t:Int) (h:0<=p.t/\p.t<=4096) (ht:0<=t/\t<=1073741824):PC 294 [.p (Hq p),.p (.int .i64 t)] (.int .i64 (p.t-t)):=by
 refine Zd Tryz.func294 rfl Zcv ?_;simp (disch:=omega) only [Tryz.f294,go_sem,seval,↓reduceIte]
theorem tI (l:List Pt) (c:Bool) (hl:W9 l):PC 283 [.p (.list c (l.map Hq))] (.bool true):=by
 refine Zd Tryz.func283 rfl Zck ?_;simp (disch:=omega) only [Tryz.f283,go_sem,seval];refine (kY l c hl).use ?_;simp (disch:=omega) only [go_sem,seval]
structure PosT (l:List Pt) (t:Int) (i:Nat):Prop where
 le:i<=l.length
 lo: ∀j,j<i->(nth l j).t<t
 hi: ∀j,i<=j->j<l.length->t<=(nth l j).t
theorem Zhi (l:List Pt) (c:Bool) (t:Int) (i:Nat) (hl:W9 l) (ht:0<=t/\t<=1073741824) (hi:PosT l t i):PT 293 [.p (.list c (l.map Hq)),.p (.int .i64 t),.fn (.func 294) [] []] [.p (.int .i64 (i:Int)),.p (.bool (decide (i<l.length)&&decide ((nth l i).t=t)))]:=by
 obtain ⟨⟨hl1,hl2⟩,hpt⟩:=hl;obtain ⟨hi1,hi2,hi3⟩:=hi;refine Zf [] Tryz.func293 rfl Zcu ?_;simp (disch:=omega) only [Tryz.f293,go_sem,seval];refine Zm [0,1,2,8] (fun q:Nat×Nat=> [(9,.p (.int .i64 q.1)),(10,.p (.int .i64 q.2))]) (fun _=> []) (fun q=>q.1<=i/\i<=q.2/\q.2<=l.length) (fun q=>q.2-q.1) (0,l.length) (by simp;omega) (Weak.mk ?_) ?_
 ·simp (disch:=omega) only [go_sem,seval,↓reduceIte]
 ·rintro ⟨a,b⟩ ⟨h1,h2,h3⟩;simp only at h1 h2 h3;refine Zc ?_;refine cD ?_ ?_<;>intro h<;>simp (disch:=omega) only [Sh.out h,go_sem,seval,↓reduceIte]
  ·have hm:(a+b) / 2<l.length:=Za
   obtain ⟨⟨p1,p2,p3,p4⟩,q⟩:=hpt _ hm
   have hs:((a:Int)+(b:Int)).fdiv (2^min 1 64)=(((a+b) / 2:Nat):Int):=by
    grind
   have em:((((a+b) / 2:Nat)):Int).toNat=(a+b) / 2:=Za
   have hnb:((a+b) / 2<i)↔(nth l ((a+b) / 2)).t-t<0:=by
    grind
   rw [hs];refine Zc ?_;refine (RB (nth l ((a+b) / 2)) t ⟨p1,p2⟩ ht).use (Zc ?_);refine cD ?_ ?_<;>intro h4<;>simp (disch:=omega) only [Sh.out h4,go_sem,seval,↓reduceIte]
   ·exact ⟨((a+b) / 2+1,b),⟨Za,h2,h3⟩,Za,wk⟩
   ·exact ⟨(a,(a+b) / 2),⟨h1,Za,Za⟩,Za,wk⟩
  ·have:a=i:=Za
   subst this;refine gT ?_ ?_<;>intro h4<;>simp (disch:=omega) only [Sh.out h4,go_sem,seval,↓reduceIte]
   ·have hm:a<l.length:=Za
    obtain ⟨⟨p1,p2,p3,p4⟩,q⟩:=hpt _ hm;refine (RB (nth l a) t ⟨p1,p2⟩ ht).use (Zc ?_);have e5:((nth l a).t-t=0)=((nth l a).t=t):=propext Za;exact we (by simp (disch:=omega) only [e5,hm,go_sem,seval])
   ·have hm: ¬a<l.length:=Za
    exact we (by simp (disch:=omega) only [hm,go_sem,seval])
theorem CP {l:List Pt} (hl:W9 l) {k:Nat} (hk:k<l.length): ∀j,j<k->(nth l j).t<(nth l k).t:=by
 obtain ⟨_,hpt⟩:=hl
 induction k with
 | zero=>omega
 | succ k ih =>
  intro j hj;obtain ⟨_,q⟩:=hpt (k+1) hk
  grind
theorem sY {l:List Pt} (hl:W9 l) (t:Int): ∃i,PosT l t i:=by
 have: ∀n,n<=l.length-> ∃i,i<=n/\(∀j,j<i->(nth l j).t<t)/\(i<n->t<=(nth l i).t):=by
  intro n
  induction n with
  | zero=>simp
  | succ n ih =>
   grind
 obtain ⟨i,h1,h2,h3⟩:=this l.length (ZA _);refine ⟨i,h1,h2,fun j hj hjl=> ?_⟩;rcases Nat.lt_or_eq_of_le hj with h | h
 ·have:=CP hl hjl i h;omega
 grind
theorem oX {l:List Pt} {t:Int} {i:Nat} (hl:W9 l) (h:PosT l t i) (hi:i<l.length) (e:(nth l i).t=t):JB l t=(nth l i).a:=by
 by_cases g:i+1<l.length
 ·have m:=CP hl g i Za;rw [IF g (fun j hj=> ?_) (by grind [Q7]),Hb]
  ·rw [e,Int.sub_self,Int.zero_mul,Int.zero_add];rw [Int.ediv_eq_zero_of_lt Za Za];omega
  ·have:(nth l (j+1)).t<=t:=by
    rcases Nat.lt_or_eq_of_le (show j+1<=i by omega) with h1 | h1
    ·have:=h.lo _ h1;omega
    grind
   simp [Q7];omega
 ·have hi1:i=l.length-1:=Za
  rw [Es (fun j hj=> ?_)]
  ·split
   ·grind
   ·have:i=0:=by
     by_cases g2:i=0
     ·exact g2
     ·have:=h.lo 0 Za;omega
    grind
  ·have:(nth l (j+1)).t<=t:=by
    rcases Nat.lt_or_eq_of_le (show j+1<=i by omega) with h1 | h1
    ·have:=h.lo _ h1;omega
    grind
   simp [Q7];omega
theorem pA {l:List Pt} {t:Int} (hl:W9 l) (h:PosT l t 0) (e: ¬(nth l 0).t=t):JB l t=t+(nth l 0).a-(nth l 0).t:=by
 have h0:=h.hi 0 (ZA _) hl.1.1;rw [Es (fun j hj=> ?_),if_neg Za]
 have:t<(nth l j).t:=by
  by_cases g:j=0
  ·grind
  ·have:=CP hl (show j<l.length by omega) 0 Za;omega
 simp [Q7];omega
theorem oZ {l:List Pt} {t:Int} (h:PosT l t l.length) (hl:0<l.length):JB l t=t+(nth l (l.length-1)).a-(nth l (l.length-1)).t:=by
 rw [Es (fun j hj=> ?_),if_pos (h.lo 0 hl)];have:=h.lo (j+1) hj;simp [Q7];omega
theorem eG {l:List Pt} {t:Int} {i:Nat} (h:PosT l t i) (h0:0<i) (hi:i<l.length) (e: ¬(nth l i).t=t):JB l t=Hb (nth l (i-1)) (nth l i) t:=by
 have e1:i-1+1=i:=Za
 have h1:=h.lo (i-1) Za;have h2:=h.hi i (ZA _) hi;have:=IF (l:=l) (t:=t) (i:=i-1) Za (fun j hj=>by have:=h.lo (j+1) Za;simp [Q7];omega) (by grind [Q7]);rw [this,e1]
theorem H9 {p q:Pt} {t:Int} (h1:p.t<=t) (h2:t<q.t) (hp:0<=p.t) (hq:q.t<=4096) (ha:p.a<=q.a) (hpa:0<=p.a) (hqa:q.a<=8192) :
  IntKind.i64.wrap (p.a+IntKind.i64.wrap ((IntKind.i64.wrap (IntKind.i64.wrap (IntKind.i64.wrap ((t-p.t)*(q.a-p.a))+(q.t-p.t))-1)).tdiv (q.t-p.t)))=Hb p q t:=by
 have hm:=Gk h1 h2 hp hq ha hpa hqa;unfold Hb;generalize hM:(t-p.t)*(q.a-p.a)=m at hm
 have hd:0<=(m+(q.t-p.t)-1) / (q.t-p.t)/\(m+(q.t-p.t)-1) / (q.t-p.t)<=m+(q.t-p.t)-1:=by
  refine ⟨Int.ediv_nonneg Za Za,Int.ediv_le_self _ Za⟩
 rw [IntWalk.i64_in m Za,IntWalk.i64_in (m+(q.t-p.t)) Za,IntWalk.i64_in (m+(q.t-p.t)-1) Za,Int.tdiv_eq_ediv_of_nonneg Za,IntWalk.i64_in ((m+(q.t-p.t)-1) / (q.t-p.t)) Za,IntWalk.i64_in _ Za]
 congr 2
 omega
theorem PD (l:List Pt) (c:Bool) (t:Int) (hl:W9 l) (ht:0<=t/\t<=1073741824):PC 284 [.p (.list c (l.map Hq)),.p (.int .i64 t)] (.int .i64 (JB l t)):=by
 obtain ⟨i,hi⟩:=sY hl t;have hl':=hl;obtain ⟨⟨hl1,hl2⟩,hpt⟩:=hl';refine Zd Tryz.func284 rfl Zcl ?_;simp (disch:=omega) only [Tryz.f284,go_sem,seval];refine Yg (Zhi l c t i hl ht hi) (Zc ?_);obtain ⟨i1,i2,i3⟩:=id hi;refine cD ?_ ?_<;>intro h<;>simp (disch:=omega) only [Sh.out h,go_sem,seval,↓reduceIte]
 ·grind [oX]
 ·refine cD ?_ ?_<;>intro h0<;>simp (disch:=omega) only [Sh.out h0,go_sem,seval]
  ·have:i=0:=Za
   subst this;obtain ⟨p1,p2⟩:=hpt 0 Za;rw [pA hl hi (fun g=>h ⟨Za,g⟩)];refine Xo ?_;simp (disch:=omega) only [go_sem,seval,↓reduceIte]
  ·refine cD ?_ ?_<;>intro h1<;>simp (disch:=omega) only [Sh.out h1,go_sem,seval]
   ·have:i=l.length:=Za
    subst this;obtain ⟨p1,p2⟩:=hpt (l.length-1) Za;rw [oZ hi Za]
    have e1:((l.length:Int)-1).toNat=l.length-1:=Za
    refine Xo ?_;simp (disch:=omega) only [go_sem,seval,↓reduceIte]
   ·have g1:i<l.length:=Za
    rw [eG hi Za g1 (fun g=>h ⟨g1,g⟩)];have g2:=CP hl g1 (i-1) Za;obtain ⟨p1,p2⟩:=hpt i g1;obtain ⟨p3,p4⟩:=hpt (i-1) Za
    have e1:((i:Int)-1).toNat=i-1:=Za
    have q1:=i2 (i-1) Za;have q2:=i3 i (ZA _) g1;have q3: ¬(nth l i).t=t:=fun g=>h ⟨g1,g⟩;have q4:=p2 Za;refine X0 [9,10,11] 12 mixed Ze Ze Ze Zb ?_;simp (disch:=omega) only [e1,go_sem,seval];refine aA 9 10 _ _ _ _ Ze (by refine Zc ?_;exact ⟨rfl,rfl⟩) (by refine Zc ?_;exact ⟨rfl,rfl⟩) ?_ ?_
    ·refine Xr 10 _ _ Ze (by refine Zc ?_;exact ⟨rfl,rfl⟩) (Xr 11 _ _ Ze (by refine Zc ?_;exact ⟨rfl,rfl⟩) (Wz ?_));refine Zc ?_;refine Xo (Zc ?_);exact ZU (fun z=>V.p (PV.int IntKind.i64 z)) (H9 Za Za Za Za Za Za Za)
    ·refine Xr 9 _ _ Ze (by refine Zc ?_;exact ⟨rfl,rfl⟩) (Xr 11 _ _ Ze (by refine Zc ?_;exact ⟨rfl,rfl⟩) (Wz ?_));refine Zc ?_;refine Xo (Zc ?_);exact ZU (fun z=>V.p (PV.int IntKind.i64 z)) (H9 Za Za Za Za Za Za Za)
theorem aV (l:List Pt) (c:Bool) (t:Int) (hl:W9 l) (ht:0<=t/\t<=1073741824):PC 264 [.p (.list c (l.map Hq)),.p (.int .i64 t)] (.int .i64 (JB l t)):=by
 refine Zd Tryz.func264 rfl Zb1 ?_;simp (disch:=omega) only [Tryz.f264,go_sem,seval];refine (Om t 0 1073741824).use (Zc ?_);simp (disch:=omega) only [ht,go_sem,seval];refine (tI l c hl).use (Zc ?_);refine (PD l c t hl ht).use ?_;simp (disch:=omega) only [go_sem,seval]
theorem NC (n:Net) (p:Int) (hn:n.places.length<=1048576):PC 237 [.p (B4 n),.p (.int .i64 p)] (.bool (KS n p)):=by
 refine Zd Tryz.func237 rfl ZbC ?_;simp (disch:=omega) only [Tryz.f237,go_sem,seval];refine gT ?_ ?_<;>intro h<;>simp (disch:=omega) only [Sh.out h,go_sem,seval,↓reduceIte]
 ·simp [KS,h]
 ·simp [KS,h]
theorem uS (a:Arc):PC 263 [.p (VW a)] (.agg [.int .i64 a.src,.int .i64 a.dst,.int .i64 a.prof]):=by
 refine Zd Tryz.func263 rfl Zb0 ?_;simp (disch:=omega) only [Tryz.f263,go_sem,seval,↓reduceIte]
theorem sR (a:Arc) (t:Int) (ha:oV a) (ht:0<=t/\t<=1073741824):PC 239 [.p (VW a),.p (.int .i64 t)] (.int .i64 (IE a t)):=by
 obtain ⟨h1,h2,h3⟩:=ha;have hr:=Fc h1 ht;have hs:=Ju (t:=t) (fun p hp=>(h3 p hp).2.2);refine Zd Tryz.func239 rfl ZbE ?_;simp (disch:=omega) only [Tryz.f239,go_sem,seval];refine (aV a.travel a.travel_c t h1 ht).use (Zc ?_);refine Zm [1,13,14] (fun k:Nat=> [(5,.p (.int .i64 (JB a.travel t+Ki a.slow t k))),(15,.p (.int .i64 k))]) (fun _=> [Vb a]) (fun k=>k<=a.slow.length) (fun k=>a.slow.length-k) 0 Zb (Weak.mk ?_) ?_
 ·simp (disch:=omega) only [Vb,Ki,UD,go_sem,seval];simp
 ·intro k hk;have hsk:=hs k hk;simp (disch:=omega) only [Vb,go_sem,seval];refine cD ?_ ?_<;>intro h<;>simp (disch:=omega) only [Sh.out h,go_sem,seval,↓reduceIte]
  ·have hk2:k<a.slow.length:=Za
   have hp:=h3 _ (ZY hk2);have hsn:=BG (t:=t) hk2;refine ZO ?_ ?_<;>intro h4
   ·rw [if_pos h4] at hsn;exact ⟨k+1,Za,Za,Weak.mk (by simp (disch:=omega) only [hsn,Int.add_assoc,go_sem,seval])⟩
   ·rw [if_neg h4] at hsn;exact ⟨k+1,Za,Za,Weak.mk (by simp (disch:=omega) only [hsn,go_sem,seval])⟩
  grind [IE]
theorem sU (n:Net) (pr f t:Int) (hn:n.arcs.length<=1048576):PT 238 [.p (B4 n),.p (.int .i64 pr),.p (.int .i64 f),.p (.int .i64 t)] [.p (VW (WY n pr f t).1),.p (.bool (WY n pr f t).2)]:=by
 refine Zf [] Tryz.func238 rfl ZbD ?_;simp (disch:=omega) only [Tryz.f238,go_sem,seval];refine Zm [8,10,18,19] (fun k:Nat=> [(20,.p (.int .i64 k))]) (fun _=>Z7 n++ [Vb Ud,.cells [.p (.int .i64 f),.p (.int .i64 t),.p (.int .i64 pr)]]) (fun k=>k<=n.arcs.length/\ ∀j,j<k->VA pr f t (nth n.arcs j)=false) (fun k=>n.arcs.length-k) 0 Zb (Weak.mk ?_) ?_
 ·simp (disch:=omega) only [Z7,Vb,Ud,Zn,ZK,Zy,go_sem,seval]
 ·rintro k ⟨hk,hno⟩;simp (disch:=omega) only [Z7,Vb,Ud,Zn,ZK,Zy,go_sem,seval];refine cD ?_ ?_<;>intro h<;>simp (disch:=omega) only [Sh.out h,go_sem,seval,↓reduceIte]
  ·have hk2:k<n.arcs.length:=Za
   have nx:VA pr f t (nth n.arcs k)=false-> ∀j,j<k+1->VA pr f t (nth n.arcs j)=false:=fun h=>Zs.2 ⟨hno,h⟩;refine Xo (Zc ?_);refine Zo (uS (nth n.arcs k)) (Zc ?_);refine ZO ?_ ?_<;>intro h1
   ·have e:=MQ hk2 hno (by simp [VA,h1]);obtain ⟨rfl,rfl,rfl⟩:=h1;rw [e];exact we
   ·have e2:VA pr f t (nth n.arcs k)=false:=by
     simp_all [VA]
    exact ⟨k+1,⟨Za,nx e2⟩,Za,wk⟩
  ·have hkn:k=n.arcs.length:=Za
   subst hkn;rw [MR hno];exact we (by simp (disch:=omega) only [Ud,Zn,go_sem,seval])
theorem wL (n:Net) (pr f t τ:Int) (hn:netR n) (hτ:0<=τ/\τ<=1073741824):PT 221 [.p (B4 n),.p (.int .i64 pr),.p (.int .i64 f),.p (.int .i64 t),.p (.int .i64 τ)] [.p (.int .i64 (WZ n pr f t τ).1),.p (.int .i64 (WZ n pr f t τ).2.1),.p (.int .i64 (WZ n pr f t τ).2.2)]:=by
 refine Zf [] Tryz.func221 rfl Zbp ?_;simp (disch:=omega) only [Tryz.f221,go_sem,seval];refine (NC n f hn.1).use (Zc ?_);refine gF ?_ ?_<;>intro h1<;>simp (disch:=omega) only [Sh.out h1,go_sem,seval,↓reduceIte]
 ·have e:WZ n pr f t τ=(0,0,11):=by grind [WZ]
  rw [e];exact we
 ·simp only [XM] at h1;refine (NC n t hn.1).use (Zc ?_);refine cD ?_ ?_<;>intro h2<;>simp (disch:=omega) only [Sh.out h2,go_sem,seval]
  ·have e:WZ n pr f t τ=(0,0,11):=by grind [WZ]
   rw [e];exact we
  ·simp only [XM] at h2;refine cD ?_ ?_<;>intro h3<;>simp (disch:=omega) only [Sh.out h3,go_sem,seval,↓reduceIte]
   ·have e:WZ n pr f t τ=(τ,0,0):=by grind [WZ]
    rw [e];exact we
   ·have cf:=sU n pr f t hn.2.1;have hm:= @Ah n pr f t
    have e0:WZ n pr f t τ=if (WY n pr f t).2=true then (IE (WY n pr f t).1 τ,(WY n pr f t).1.miles,0) else (0,0,12):=by grind [WZ]
    rw [e0];generalize WY n pr f t=A at cf hm ⊢;obtain ⟨a,b⟩:=A;simp only at cf hm ⊢;refine Yg cf (Zc ?_);refine cD ?_ ?_<;>intro h4<;>simp (disch:=omega) only [Sh.out h4,go_sem,seval]
    ·have hb:b=false:=by grind
     subst hb;exact we (by simp (disch:=omega) only [go_sem,seval,↓reduceIte])
    ·have hb:b=true:=by grind
     subst hb;refine Xo (Zc ?_);refine Zo (sR a τ (hn.2.2 a (hm rfl)) hτ) (Zc ?_);exact we
def Fj (s:Stp) (a:Int):Int×Int:=if max a s.opn>s.cls then (0,14) else (max a s.opn,0)
theorem Rt (s:Stp) (a:Int):PT 240 [.p (Ft s),.p (.int .i64 a)] [.p (.int .i64 (Fj s a).1),.p (.int .i64 (Fj s a).2)]:=by
 refine Zf [] Tryz.func240 rfl ZbF ?_;simp (disch:=omega) only [Tryz.f240,go_sem,seval];refine cD ?_ ?_<;>intro h<;>simp (disch:=omega) only [Sh.out h,go_sem,seval]
 ·have e:Fj s a=(0,14):=by simp_all [Fj]
  rw [e];exact we
 ·have e:Fj s a=(max a s.opn,0):=by simp_all [Fj]
  rw [e];exact we
theorem lE (l:List Ord) (c:Bool) (p:Int) (hl:l.length<=1048576):PC 188 [.p (.list c (l.map Yh)),.p (.int .i64 p)] (.bool (decide (0<=p)&&decide (p<(l.length:Int)))):=by
 refine Zd Tryz.func188 rfl jI ?_;simp (disch:=omega) only [Tryz.f188,go_sem,seval];refine gT ?_ ?_<;>intro h<;>simp (disch:=omega) only [Sh.out h,go_sem,seval,↓reduceIte]
 all_goals simp [h]
theorem Sw (x:Inst) (v:Vis) (ho:x.orders.length<=1048576) (hv:M6 x v=true) (hp:0<=(Xk x v).place):PT 193 [.p (.list x.orders_c (x.orders.map Yh)),.p (Z9 v)] [.p (Ft (Xk x v)),.p (.int .i64 0)]:=by
 refine Zf [] Tryz.func193 rfl Za9 ?_;simp (disch:=omega) only [Tryz.f193,go_sem,seval];have hv':=hv;rw [M6] at hv';have ct:=lE x.orders x.orders_c v.order ho;rw [hv'] at ct;refine ct.use ?_;simp only [ZB,Zq] at hv';obtain ⟨h1,h2⟩:=hv'
 have hi:v.order.toNat<x.orders.length:=Za
 refine Zc ?_;refine cD ?_ ?_<;>intro hd<;>simp (disch:=omega) only [Sh.out hd,go_sem,seval,↓reduceIte]
 ·have e:Xk x v=(nth x.orders v.order.toNat).drp:=by simp [Xk,hd]
  rw [e] at hp ⊢
  have e3: ¬(nth x.orders v.order.toNat).drp.place<0:=Za
  simp (disch:=omega) only [e3,go_sem,seval];exact we
 ·have e:Xk x v=(nth x.orders v.order.toNat).pick:=by simp [Xk,hd]
  rw [e] at hp ⊢
  have e3: ¬(nth x.orders v.order.toNat).pick.place<0:=Za
  simp (disch:=omega) only [e3,go_sem,seval];exact we
theorem sT (l:List Typ) (c:Bool) (ht:l.length<=1048576):PC 274 [.p (.list c (l.map X4))] (.int .i64 (dimsOf l)):=by
 refine Zd Tryz.func274 rfl Zcb ?_;simp (disch:=omega) only [Tryz.f274,go_sem,seval];refine cD ?_ ?_<;>intro h1<;>simp (disch:=omega) only [Sh.out h1,go_sem,seval,↓reduceIte]
 ·grind [dimsOf]
 simp_all [dimsOf]
theorem sV (a b:List Int) (c d:Bool) (ha:a.length<=1048576) (hb:b.length<=1048576):PC 255 [.p (.list c (a.map eI)),.p (.list d (b.map eI))] (.bool (VX a b)):=by
 refine Zd Tryz.func255 rfl ZbT ?_;simp (disch:=omega) only [Tryz.f255,go_sem,seval];refine cD ?_ ?_<;>intro h1<;>simp (disch:=omega) only [Sh.out h1,go_sem,seval]
 ·grind [VX]
 ·have h1':a.length=b.length:=Za
  refine Zm [1,12,13] (fun k:Nat=> [(14,.p (.int .i64 k))]) (fun _=> []) (fun k=>k<=a.length/\ ∀j,j<k->nth a j<=nth b j) (fun k=>a.length-k) 0 Zb (Weak.mk ?_) ?_
  ·simp (disch:=omega) only [go_sem,seval]
  ·rintro k ⟨hk,hno⟩;refine Zc ?_;refine cD ?_ ?_<;>intro h2<;>simp (disch:=omega) only [Sh.out h2,go_sem,seval,↓reduceIte]
   ·have hk2:k<a.length:=Za
    refine ZO ?_ ?_<;>intro h3
    ·grind [VX]
    ·exact ⟨k+1,⟨Za,Zs.2 ⟨hno,Za⟩⟩,Za,wk⟩
   ·have hkl:k=a.length:=Za
    simp_all [VX]
theorem sQ (t:Typ) (s:Int) (h1:t.skills<9223372036854775808) (h2:s<9223372036854775808):PC 251 [.p (X4 t),.p (.int .i64 s)] (.bool (Yj t s)):=by
 refine Zd Tryz.func251 rfl ZbP ?_;simp (disch:=omega) only [Tryz.f251,go_sem,seval];refine gT ?_ ?_<;>intro c1<;>simp (disch:=omega) only [Sh.out c1,go_sem,seval,↓reduceIte]
 ·refine gT ?_ ?_<;>intro c2<;>simp (disch:=omega) only [Sh.out c2,go_sem,seval,↓reduceIte]
  ·obtain ⟨M,hM⟩: ∃M:Nat,t.skills=(M:Int):=⟨t.skills.toNat,Za⟩;obtain ⟨S,rfl⟩: ∃S:Nat,s=(S:Int):=⟨s.toNat,Za⟩;have hb:=DY (S:=S) (M:=M) Za
   have e:Yj t (S:Int)=(List.range 63).all fun i=> !S.testBit i||M.testBit i:=by
    simp_all [Yj]
   have hd:decide (IntKind.i64.wrap ((BitVec.ofInt 64 (S:Int)&&& ~~~BitVec.ofInt 64 (M:Int)).toNat:Int)=0)=((List.range 63).all fun i=> !S.testBit i||M.testBit i):=by
    grind
   rw [e,hM];exact ZU (fun b=>V.p (PV.bool b)) hd
  grind [Yj]
 grind [Yj]
theorem ZcV (a b:Int) (h: -1073741824<=a/\a<=1073741824/\ -1073741824<=b/\b<=1073741824):PC 287 [.p (.int .i64 a),.p (.int .i64 b)] (.int .i64 (a+b)):=by
 refine Zd Tryz.func287 rfl Zco ?_;simp (disch:=omega) only [Tryz.f287,go_sem,seval]
theorem rY (a b:Int) (h: -1073741824<=a/\a<=1073741824/\ -1073741824<=b/\b<=1073741824):PC 288 [.p (.int .i64 a),.p (.int .i64 b)] (.int .i64 (a-b)):=by
 refine Zd Tryz.func288 rfl Zcp ?_;simp (disch:=omega) only [Tryz.f288,go_sem,seval]
def cZ (f:Nat->Int) (n k:Nat):List Int:=(List.range n).map fun j=>if j<k then f j else 0
theorem rZ {f:Nat->Int} {n k:Nat} :(cZ f n k).length=n:=by simp [cZ]
theorem kA {f:Nat->Int} {n:Nat} :cZ f n 0=List.replicate n 0:=by
 apply Q1 (by simp [cZ]);grind [cZ]
theorem jZ {f:Nat->Int} {n:Nat} :cZ f n n=(List.range n).map f:=by
 simp_all [cZ]
theorem sA {f:Nat->Int} {n k:Nat} (h:k<n):(cZ f n k).set k (f k)=cZ f n (k+1):=by
 apply Q1 (by simp [cZ]);grind [cZ]
theorem Hp (a b:List Int) (c d:Bool) (g:FuncId) (f:Int->Int->Int) (hl:a.length=b.length) (ha:a.length<=1048576)
  (hf: ∀j,j<a.length->ACalls Tryz.prog g [.p (.int .i64 (nth a j)),.p (.int .i64 (nth b j))] [] fun x H'=>x= .p (.int .i64 (f (nth a j) (nth b j)))/\H'= []) :
  PT 286 [.p (.list c (a.map eI)),.p (.list d (b.map eI)),.fn (.func g) [] []] [.p (.list false (((List.range a.length).map fun j=>f (nth a j) (nth b j)).map eI)),.p (.int .i64 0)]:=by
 refine Zf [9] Tryz.func286 rfl Zcn ?_;simp (disch:=omega) only [Tryz.f286,go_sem,seval];refine cD ?_ ?_<;>intro h0<;>simp (disch:=omega) only [Sh.out h0,go_sem,seval]
 ·omega
 ·have hz:=kA (f:=fun j=>f (nth a j) (nth b j)) (n:=a.length);have hml:=fun k=>rZ (f:=fun j=>f (nth a j) (nth b j)) (n:=a.length) (k:=k);refine Z4 [9] [0,1,2,8,19] (fun k:Nat=> [(20,.p (.int .i64 k))]) (fun k=> [.elems 1 ((cZ (fun j=>f (nth a j) (nth b j)) a.length k).map eI)]) (fun k=>k<=a.length) (fun k=>a.length-k) 0 Zb (Weak.mk ?_) ?_
  ·simp (disch:=omega) only [hz,go_sem,seval];rw [Ar];rfl
  ·intro k hk;refine Zc ?_;refine cD ?_ ?_<;>intro h1<;>simp (disch:=omega) only [Sh.out h1,go_sem,seval,↓reduceIte]
   ·have hk2:k<a.length:=Za
    have hs:=sA (f:=fun j=>f (nth a j) (nth b j)) (n:=a.length) hk2;have hk3:=hml k;refine ZC 12 mixed Ze Ze ?_;refine Zc ?_;refine Zo (hf k hk2) ?_;refine Zc ?_;simp (disch:=first | omega | (simp only [ZD,ZF,ZH,Z1,Xs,XI]<;>omega)) only [go_sem,seval,↓reduceIte];refine ⟨k+1,Za,Za,Weak.mk ?_⟩;simp (disch:=omega) only [<- hs,go_sem,seval];rw [UT];rfl
   ·have hkl:k=a.length:=Za
    subst hkl;rw [<- jZ];have hk3:=hml a.length;refine Zp (Weak.fz (o:=0) (by rfl)) ?_;refine Zg [] _ _ _ _ ?_;simp (disch:=omega) only [Zr,Zn,ZX,go_sem,seval];rw [if_pos hk3];exact we
theorem kW (a b:List Int) (c d:Bool) (hl:a.length=b.length) (ha:a.length<=1048576) (h: ∀j,j<a.length-> -1073741824<=nth a j/\nth a j<=1073741824/\ -1073741824<=nth b j/\nth b j<=1073741824):PT 275 [.p (.list c (a.map eI)),.p (.list d (b.map eI))] [.p (.list false ((E4 a b).map eI)),.p (.int .i64 0)]:=by
 refine Zf [] Tryz.func275 rfl Zcc ?_;simp (disch:=omega) only [Tryz.f275,go_sem,seval];refine Yg (Hp a b c d 287 (fun m n=>m+n) hl ha fun j hj=>ZcV _ _ (h j hj)) ?_;simp (disch:=omega) only [E4,go_sem,seval];exact we
theorem ZcS (a b:List Int) (c d:Bool) (hl:a.length=b.length) (ha:a.length<=1048576) (h: ∀j,j<a.length-> -1073741824<=nth a j/\nth a j<=1073741824/\ -1073741824<=nth b j/\nth b j<=1073741824):PT 276 [.p (.list c (a.map eI)),.p (.list d (b.map eI))] [.p (.list false ((uB a b).map eI)),.p (.int .i64 0)]:=by
 refine Zf [] Tryz.func276 rfl Zcd ?_;simp (disch:=omega) only [Tryz.f276,go_sem,seval];refine Yg (Hp a b c d 288 (fun m n=>m-n) hl ha fun j hj=>rY _ _ (h j hj)) ?_;simp (disch:=omega) only [uB,go_sem,seval];exact we
theorem lA (x:Inst) (r:Rte) (ht:0<=r.typ/\r.typ<(x.types.length:Int)) (hv: ∀v∈r.visits,M6 x v=true) (hl:r.visits.length<=1048576) (hxl:x.types.length<=1048576) (hol:x.orders.length<=1048576)
  (hs:(ZE x r).skills<9223372036854775808) (ho: ∀o∈x.orders,o.skills<9223372036854775808) :
  PC 230 [.p (Zv x),.p (WG r)] (.int .i64 (if (r.visits.any fun v=> !Yj (ZE x r) (nth x.orders v.order.toNat).skills)=true then 18 else 0)):=by
 refine Zd Tryz.func230 rfl Zbv ?_;simp (disch:=omega) only [Tryz.f230,go_sem,seval];refine Zm [2,3,8,9] (fun k:Nat=> [(10,.p (.int .i64 k))]) (fun _=> [Zj x,.cells [.p (.int .i64 r.typ),.p (.int .i64 r.start),.p (.list r.rests_c (r.rests.map eB)),.p (.list r.visits_c (r.visits.map Z9))]]) (fun k=>k<=r.visits.length/\ ∀j,j<k->Yj (ZE x r) (nth x.orders (nth r.visits j).order.toNat).skills=true) (fun k=>r.visits.length-k) 0 Zb (Weak.mk ?_) ?_
 ·simp (disch:=omega) only [Zj,go_sem,seval]
 ·rintro k ⟨hk,hno⟩;refine Ye ?_;refine cD ?_ ?_<;>intro h1<;>simp (disch:=omega) only [Sh.out h1,go_sem,seval,↓reduceIte]
  ·have hk2:k<r.visits.length:=Za
   have hin:=hv _ (ZY hk2);simp only [M6,ZB,Zq] at hin;obtain ⟨i1,i2⟩:=hin
   have hi:(nth r.visits k).order.toNat<x.orders.length:=Za
   have ho':=ho _ (ZY hi);refine Xo (Zc ?_);refine Zo (sQ (ZE x r) (nth x.orders (nth r.visits k).order.toNat).skills Za Za) (Zc ?_);refine ZO ?_ ?_<;>intro h2
   ·have:(r.visits.any fun v=> !Yj (ZE x r) (nth x.orders v.order.toNat).skills)=true:=by
     grind [ZY]
    grind
   ·exact ⟨k+1,⟨Za,Zs.2 ⟨hno,by grind⟩⟩,Za,wk⟩
  ·have: ¬(r.visits.any fun v=> !Yj (ZE x r) (nth x.orders v.order.toNat).skills)=true:=by
    rw [WL];rintro ⟨v,hv,e⟩;obtain ⟨j,hj,rfl⟩:=ZT.1 hv
    grind [Zh]
   grind
def SM (x:Inst) (d:Nat) (ms:List Int) (k:Nat):List Int:=(ms.take k).foldl (fun s i=>if (nth x.orders i.toNat).pick.place<0 then E4 s (nth x.orders i.toNat).load else s) (List.replicate d 0)
theorem N6 {x:Inst} {d:Nat} {ms:List Int} {k:Nat} (h:k<ms.length):SM x d ms (k+1)=if (nth x.orders (nth ms k).toNat).pick.place<0 then E4 (SM x d ms k) (nth x.orders (nth ms k).toNat).load else SM x d ms k:=by
 grind [SM,Yb,Zh]
theorem SN {x:Inst} {d:Nat} {ms:List Int} (hms: ∀i∈ms,∀j,j<d->0<=nth (nth x.orders i.toNat).load j/\nth (nth x.orders i.toNat).load j<=1000): ∀k,k<=ms.length->(SM x d ms k).length=d/\ ∀j,j<d->0<=nth (SM x d ms k) j/\nth (SM x d ms k) j<=1000*k
 | 0,_=>by
  grind [SM,Zh]
 | k+1,h=>by
  obtain ⟨h1,h2⟩:=SN hms k Za;rw [N6 Za]
  split
  ·refine ⟨by simp [E4,h1],fun j hj=> ?_⟩;have a1:=h2 j hj;have a2:=hms _ (ZY (show k<ms.length by omega)) j hj;rw [E4,KP Za];omega
  ·exact ⟨h1,fun j hj=>by have:=h2 j hj;omega⟩
theorem tZ (x:Inst) (S:Int) (d:Nat) (hd:d<=3) (hol:x.orders.length<=1048576) (hms: ∀i∈X3 S 63,0<=i/\i<(x.orders.length:Int)) (hml:(X3 S 63).length<=63)
  (hld: ∀o∈x.orders,o.load.length=d/\ ∀n∈o.load,0<=n/\n<=1000) :
  PC 273 [.p (Zv x),.p (.int .i64 S),.p (.int .i64 (d:Int))] (.list false ((SM x d (X3 S 63) (X3 S 63).length).map eI)):=by
 have hmo: ∀i∈X3 S 63,i.toNat<x.orders.length:=fun i hi=>by grind
 have hrg:=SN (x:=x) (d:=d) (ms:=X3 S 63) fun i hi j hj=>by
  grind [ZY]
 refine Zd Tryz.func273 rfl Zca ?_;simp (disch:=omega) only [Tryz.f273,go_sem,seval];refine (Dv S).useF (Zc ?_);refine Zp ((Weak.fz (o:=1) (by rfl)).trans (Weak.fz (o:=2) (by rfl))) ?_;simp (disch:=omega) only [Zr,Zn,Z6,ZX,Ct,eq_self,go_sem,seval]
 have hz:List.replicate d (PV.int .i64 0)=(SM x d (X3 S 63) 0).map eI:=by
  show _=(List.replicate d 0).map eI
  rw [Ar];rfl
 refine Zm [3,13,14] (fun k:Nat=> [(7,.p (.list false ((SM x d (X3 S 63) k).map eI))),(15,.p (.int .i64 k))]) (fun _=> [Zj x,.dead,.dead]) (fun k=>k<=(X3 S 63).length) (fun k=>(X3 S 63).length-k) 0 Zb (Weak.mk ?_) ?_
 ·simp (disch:=omega) only [Zj,hz,go_sem,seval]
 ·intro k hk;have hk1:=hrg k hk;have hsn:=fun h=>N6 (x:=x) (d:=d) (ms:=X3 S 63) (k:=k) h;refine Ye ?_;refine cD ?_ ?_<;>intro h1<;>simp (disch:=omega) only [Sh.out h1,go_sem,seval,↓reduceIte]
  ·have hk2:k<(X3 S 63).length:=Za
   have hm:=hms _ (ZY hk2);have hi:=hmo _ (ZY hk2);have hlo:=hld _ (ZY hi);have hsn:=hsn hk2;refine Zc ?_;refine ZO ?_ ?_<;>intro h2
   ·rw [if_pos h2] at hsn;refine Yg (kW (SM x d (X3 S 63) k) (nth x.orders (nth (X3 S 63) k).toNat).load false (nth x.orders (nth (X3 S 63) k).toNat).load_c Za Za fun j hj=> ?_) ?_
    ·have b1:=hk1.2 j Za;have b2:=hlo.2 _ (ZY (show j<(nth x.orders (nth (X3 S 63) k).toNat).load.length by omega));omega
    ·refine Zc ?_;exact ⟨k+1,Za,Za,Weak.mk (by simp (disch:=omega) only [hsn,go_sem,seval])⟩
   ·rw [if_neg h2] at hsn;exact ⟨k+1,Za,Za,Weak.mk (by simp (disch:=omega) only [hsn,go_sem,seval])⟩
  grind
theorem Pg {p:Nat->Bool} {n:Nat} (h: ∀i,n<=i->p i=false): ∀k,n<=k->(List.range k).filter p=(List.range n).filter p:=by
 intro k hk
 induction k with
 | zero=>grind
 | succ k ih =>
  grind [Yu]
theorem Zi7 {x:Inst} {l:List Vis} (hi:Inr x l) (hn:x.orders.length<=10):X3 ((Xt l:Nat):Int) 63=((List.range x.orders.length).filter fun (i:Nat)=>hasO l (i:Int)).map fun (i:Nat)=>(i:Int):=by
 have key: ∀i:Nat,i<=62->sHas ((Xt l:Nat):Int) (i:Int)=hasO l (i:Int):=fun i h=>by
  rw [WQ _ _ h,Wq,CI,W7]
  constructor
  ·rintro ⟨v,hv,e⟩;exact ⟨v,hv,by have:=hi v hv;omega⟩
  grind
 unfold X3;rw [Au (q:=fun (i:Nat)=>hasO l (i:Int)) (fun i hm=>key i (by grind)),Pg (n:=x.orders.length) (fun i h=> ?_) 63 Za]
 cases hh:hasO l (i:Int) with
 | false=>rfl
 | true =>
  obtain ⟨v,hv,e⟩:=W7.1 hh;have:=hi v hv;omega
theorem iL {x:Inst} {d:Nat} : ∀(L:List Nat) (g:Nat->Int),(L.map fun (i:Nat)=>(i:Int)).foldl (fun s (i:Int)=>if (nth x.orders i.toNat).pick.place<0 then E4 s (nth x.orders i.toNat).load else s) ((List.range d).map g)=(List.range d).map fun j=>g j+(L.map fun i=>if (nth x.orders i).pick.place<0 then nth (nth x.orders i).load j else 0).sum
 | [],g=>Zb
 | i::L,g=>by
  rw [Zr,XP,XO]
  by_cases h:(nth x.orders i).pick.place<0
  ·have e:E4 ((List.range d).map g) (nth x.orders i).load=(List.range d).map fun j=>g j+nth (nth x.orders i).load j:=by
    grind [E4,W1,KP]
   rw [if_pos h,e,iL L]
   grind
  ·rw [if_neg h,iL L]
   grind
theorem cE {x:Inst} {l:List Vis} (hi:Inr x l) (hn:x.orders.length<=10):SM x (dimsOf x.types).toNat (X3 ((Xt l:Nat):Int) 63) (X3 ((Xt l:Nat):Int) 63).length=Wd x l 0:=by
 rw [SM,YV,Zi7 hi hn];have:=iL (x:=x) (d:=(dimsOf x.types).toNat) ((List.range x.orders.length).filter fun (i:Nat)=>hasO l (i:Int)) fun _=>0
 have e:(List.range (dimsOf x.types).toNat).map (fun _=>(0:Int))=List.replicate (dimsOf x.types).toNat 0:=by
  simp_all [List.map_const']
 rw [e] at this;rw [this,Wd];refine W1 fun j _=> ?_;rw [Int.zero_add,J8,DR]
 congr 1
 refine W1 fun i _=> ?_
 grind [kP]
theorem nC {x:Inst} {l:List Vis} {n j:Nat} {d:Nat} (hj:j<d) (hld: ∀o∈x.orders,o.load.length=d/\ ∀n∈o.load,0<=n/\n<=1000) (hn:x.orders.length<=10):0<=DR x l n j/\DR x l n j<=10000:=by
 have key:=SO (f:=fun i=>if i<x.orders.length then (if (EL x l n i&&hasO l i)=true then nth (nth x.orders i).load j else 0) else 0) (b:=1000) Za (fun q=>by
  grind [ZY]) x.orders.length
 have e:DR x l n j=((List.range x.orders.length).map fun i=>if i<x.orders.length then (if (EL x l n i&&hasO l i)=true then nth (nth x.orders i).load j else 0) else 0).sum:=by
  simp_all [DR,W1]
 omega
theorem dT {x:Inst} {l:List Vis} {n j:Nat} (hj:j<(dimsOf x.types).toNat) (hd:LdOk x):0<=nth (Wd x l n) j/\nth (Wd x l n) j<=10000:=by
 rw [Wd,KP hj];exact nC hj (fun o ho=>by obtain ⟨h1,h2⟩:=hd.load o ho;grind) hd.ord
def vX {α:Type} (f:α->Bool) (l:List α):Int:=match l.findIdx? f with | some i=>(i:Int) | none=> -1
theorem iN {α:Type} [Inhabited α] {f:α->Bool} {l:List α} {k:Nat} (hk:k<l.length) (h:f (nth l k)=true) (hno: ∀j,j<k->f (nth l j)=false):vX f l=(k:Int):=by
 have:l.findIdx? f=some k:=by
  grind [Uy,Zh]
 simp [vX,this]
theorem iP {α:Type} [Inhabited α] {f:α->Bool} {l:List α} (hno: ∀j,j<l.length->f (nth l j)=false):vX f l= -1:=by
 have:l.findIdx? f=none:=by
  rw [List.findIdx?_eq_none_iff];intro x hx;obtain ⟨j,hj,rfl⟩:=ZT.1 hx
  grind [Zh]
 simp [vX,this]
theorem iO {α:Type} {f:α->Bool} {l:List α} :decide (0<=vX f l)=l.any f:=by
 grind [vX]
theorem T2 (l:List (List Int)) (c:Bool) (g:FuncId) (caps:List V) (H:List AM.Obj) (f:List Int->Bool) (hl:l.length<=1048576) (hW:On H H.length H H) (hc:Xn H.length caps=true)
  (hg: ∀v∈l,ACalls Tryz.prog g (.p (oB v)::caps) H fun x H'=>x= .p (.bool (f v))/\H'=H) :
  ACalls Tryz.prog 277 [.p (.list c (l.map oB)),.fn (.func g) [] caps] H fun x H'=>x= .p (.int .i64 (vX f l))/\H'=H:=by
 refine YQ Tryz.func277 rfl Zce (Zg [] _ _ _ _ ?_);simp (disch:=omega) only [Tryz.f277,go_sem,seval];refine Zm [0,1,7] (fun k:Nat=> [(8,.p (.int .i64 k))]) (fun _=>H) (fun k=>k<=l.length/\ ∀j,j<k->f (nth l j)=false) (fun k=>l.length-k) 0 Zb (Weak.mk ?_) ?_
 ·simp (disch:=omega) only [hW,hc,go_sem,seval];simp
 ·rintro k ⟨hk,hno⟩;refine Zc ?_;refine cD ?_ ?_<;>intro h<;>simp (disch:=omega) only [Sh.out h,go_sem,seval,↓reduceIte]
  ·have hk2:k<l.length:=Za
   have hgk:=hg (nth l k) (Zt hk2);simp (disch:=omega) only [zM,go_sem,seval] at hgk;refine hgk.useH (Zc ?_);refine cD ?_ ?_<;>intro h2<;>simp (disch:=omega) only [Sh.out h2,go_sem,seval,↓reduceIte]
   ·grind [iN]
   ·have h3:f (nth l k)=false:=Za
    refine ⟨k+1,⟨Za,Zs.2 ⟨hno,h3⟩⟩,Za,Weak.mk ?_⟩;simp (disch:=omega) only [hW,hc,go_sem,seval];simp
  grind [iP]
theorem IZ (l:List (List Int)) (c:Bool) (g:FuncId) (caps:List V) (H:List AM.Obj) (f:List Int->Bool) (hl:l.length<=1048576) (hW:On H H.length H H) (hc:Xn H.length caps=true)
  (hg: ∀v∈l,ACalls Tryz.prog g (.p (oB v)::caps) H fun x H'=>x= .p (.bool (f v))/\H'=H) :
  ACalls Tryz.prog 253 [.p (.list c (l.map oB)),.fn (.func g) [] caps] H fun x H'=>x= .p (.bool (l.any f))/\H'=H:=by
 refine YQ Tryz.func253 rfl ZbR (Zg [] _ _ _ _ ?_);simp (disch:=omega) only [Tryz.f253,go_sem,seval];refine (T2 l c g caps H f hl hW hc hg).useH (Zc ?_);rw [iO]
theorem lC (x:Inst) (r:Rte) (hx:InstOk x) (hl:r.visits.length<=1048576):PC 229 [.p (Zv x),.p (WG r)] (.int .i64 (Xj x r.visits)):=by
 have hf:=XJ hx;obtain ⟨h1,h2⟩:=V5.1 hx.rules
 have ha:x.apart.length<=1048576:=by
  have h3:=(V5.1 h1).1
  grind [G4]
 have hb:x.before.length<=1048576:=by
  have h3:=(V5.1 h2).1
  grind [G4]
 exact P1 x r (by have:=hf.len;omega) hl ha hb
theorem sP {x:Inst} {l:List Vis} (hi:Inr x l) (hn:x.orders.length<=10):Q4 l=(((Xt l:Nat):Int),0):=by
 rw [Q4,if_pos];rw [Zz];intro v hv;have:=hi v hv;simp [G5];omega
theorem ZpD {α:Type} (f:Nat->α) (n:Nat):(List.range n).map f++ [f n]=(List.range (n+1)).map f:=by grind [Yu]
theorem kZ (x:Inst) (r:Rte) (hx:InstOk x) (hl:r.visits.length<=1048576) (h0:Xj x r.visits=0) :
  PT 252 [.p (Zv x),.p (WG r)] [.p (.list false ((QB x r.visits).map oB)),.p (.int .i64 0)]:=by
 have hd:=Qv hx;have hsq:=VS h0;have hol:=hd.ord;have hso:=NX r hl;rw [sP hsq.inr hol] at hso
 have hD:dimsOf x.types=((dimsOf x.types).toNat:Int):=by have:=hd.dim;omega
 have cd:=sT x.types x.types_c hd.typ;rw [hD] at cd;have hst:=cE hsq.inr hol
 have hmem: ∀i∈X3 ((Xt r.visits:Nat):Int) 63,0<=i/\i<(x.orders.length:Int):=fun i hi=>by
  rw [Zi7 hsq.inr hol] at hi
  grind
 have cs:=tZ x ((Xt r.visits:Nat):Int) (dimsOf x.types).toNat (by have:=hd.dim;omega) Za hmem (CB _ _) (fun o ho=>by have:=hd.load o ho;grind);rw [hst] at cs;refine Zf [20] Tryz.func252 rfl ZbQ ?_;simp (disch:=omega) only [Tryz.f252,go_sem,seval];refine (lC x r hx hl).use (Zc ?_);simp (disch:=omega) only [h0,go_sem,seval];refine Yg hso (Zc ?_);refine Xo (Zc ?_);refine Zo (cd) (Zc ?_);refine Zo (cs) (Zc ?_);refine Z4 [20] [2,37,38] (fun q:Nat×List (List Int)=> [(9,.p (.list false ((Wd x r.visits q.1).map eI))),(10,.sl 2 0 q.2.length q.2.length),(39,.p (.int .i64 q.1))]) (fun q=> [Zj x,Xu r,.elems 1 (q.2.map oB)]) (fun q=>q.1<=r.visits.length/\q.2=(List.range (q.1+1)).map (Wd x r.visits)) (fun q=>r.visits.length-q.1) (0,[Wd x r.visits 0]) Zb (Weak.mk ?_) ?_
 ·simp (disch:=omega) only [Zj,Xu,Zn,Zr,ZF,ZD,go_sem,seval]
 ·rintro ⟨k,o⟩ ⟨hk,ho⟩;simp only at hk ho
  have hol2:o.length=k+1:=by rw [ho];simp
  refine K1 ?_;refine cD ?_ ?_<;>intro h1<;>simp (disch:=omega) only [Sh.out h1,go_sem,seval,↓reduceIte]
  ·have hk2:k<r.visits.length:=Za
   obtain ⟨v1,v2⟩:=hsq.inr _ (Zt hk2)
   have hi:(nth r.visits k).order.toNat<x.orders.length:=Za
   obtain ⟨l1,l2⟩:=hd.load _ (ZY hi);have hsu:=S9 hsq hk2;have hal:=E5 (x:=x) (l:=r.visits) (n:=k);have hdm:=hd.dim
   have hrg: ∀j,j<(Wd x r.visits k).length-> -1073741824<=nth (Wd x r.visits k) j/\nth (Wd x r.visits k) j<=1073741824/\ -1073741824<=nth (nth x.orders (nth r.visits k).order.toNat).load j/\nth (nth x.orders (nth r.visits k).order.toNat).load j<=1073741824:=fun j hj=>by
    have b1:=dT (x:=x) (l:=r.visits) (n:=k) (j:=j) Za hd
    grind [ZY]
   refine cD ?_ ?_<;>intro h2<;>simp (disch:=omega) only [Sh.out h2,go_sem,seval,↓reduceIte]
   ·rw [if_pos h2] at hsu;refine Yg (ZcS (Wd x r.visits k) (nth x.orders (nth r.visits k).order.toNat).load false (nth x.orders (nth r.visits k).order.toNat).load_c Za Za hrg) (Zc ?_);exact ⟨(k+1,o++ [Wd x r.visits (k+1)]),⟨Za,by grind⟩,Za,Weak.mk (by simp (disch:=omega) only [hsu,ZH,ZD,ZF,Xz,Zr,Zn,go_sem,seval])⟩
   ·rw [if_neg (by rw [h2];simp)] at hsu;refine Yg (kW (Wd x r.visits k) (nth x.orders (nth r.visits k).order.toNat).load false (nth x.orders (nth r.visits k).order.toNat).load_c Za Za hrg) (Zc ?_);exact ⟨(k+1,o++ [Wd x r.visits (k+1)]),⟨Za,by grind⟩,Za,Weak.mk (by simp (disch:=omega) only [hsu,ZH,ZD,ZF,Xz,Zr,Zn,go_sem,seval])⟩
  ·have hkl:k=r.visits.length:=Za
   subst hkl;refine Zp (Weak.fz (o:=2) (by rfl)) (Zg [] _ _ _ _ (UM ?_));rw [QB,<- ho];exact we
theorem rD (x:Inst) (r:Rte) (a:List Int) (htl:x.types.length<=1048576) (hty:0<=r.typ/\r.typ<(x.types.length:Int)) (ha:a.length<=1048576) (hc:(ZE x r).cap.length<=1048576) :
  ACalls Tryz.prog 254 [.p (oB a),.ptr 0 0,.ptr 1 0] [Zj x,Xu r] fun y H'=>y= .p (.bool (!VX a (ZE x r).cap))/\H'= [Zj x,Xu r]:=by
 have hti:r.typ.toNat<x.types.length:=Za
 refine Zf [] Tryz.func254 rfl ZbS ?_;simp (disch:=omega) only [Tryz.f254,Zj,Xu,go_sem,seval];refine (sV a (ZE x r).cap false (ZE x r).cap_c ha hc).use (Zc ?_);exact we
theorem kX (x:Inst) (r:Rte) (hx:InstOk x) (hl:r.visits.length<=1048576) (hty:0<=r.typ/\r.typ<(x.types.length:Int)) (h0:Xj x r.visits=0) :
  PC 231 [.p (Zv x),.p (WG r)] (.int .i64 (if Qe x (ZE x r).cap r.visits=true then 0 else 17)):=by
 have hd:=Qv hx;have htl:=hd.typ
 have hti:r.typ.toNat<x.types.length:=Za
 have hcp:(ZE x r).cap.length<=1048576:=by
  have hcap:=hx.types.2 _ hti;unfold Us at hcap;obtain ⟨⟨⟨⟨⟨⟨⟨⟨_,_⟩,_⟩,_⟩,hcap⟩,_⟩,_⟩,_⟩,_⟩:=hcap;simp only [VB,ZB,Zq,rng] at hcap;unfold ZE;omega
 have hll:(QB x r.visits).length=r.visits.length+1:=by simp [QB]
 have hvl:=(VS h0).len hd.ord
 have hall:(QB x r.visits).any (fun a=> !VX a (ZE x r).cap)= !Qe x (ZE x r).cap r.visits:=by
  grind [Qe,QB]
 have e1: ¬r.typ<0:=Za
 have e2: ¬(x.types.length:Int)<=r.typ:=Za
 refine Zd Tryz.func231 rfl Zbw ?_;simp (disch:=omega) only [Tryz.f231,e1,e2,go_sem,seval];refine Yg (kZ x r hx hl h0) (Zc ?_);refine (IZ (QB x r.visits) false 254 [.ptr 0 0,.ptr 1 0] [Zj x,Xu r] (fun a=> !VX a (ZE x r).cap) Za (by simp (disch:=omega) only [Zj,Xu,go_sem,seval]) (by rfl) (fun a ha=>rD x r a htl hty ?_ hcp)).useH ?_
 ·obtain ⟨j,_,rfl⟩:=XQ.1 ha;rw [E5];have:=hd.dim;omega
 ·refine K1 ?_;rw [hall];refine cD ?_ ?_<;>intro h1<;>simp (disch:=omega) only [Sh.out h1,go_sem,seval]
  ·grind
  grind
theorem GW (l:List Int) (c:Bool) (hl:l.length<=1048576):ACalls Tryz.prog 94 [.p (.list c (l.map eI))] [] fun y H'=>y= .sl 0 0 l.length l.length/\H'= [.elems 1 (l.map eI)]:=by
 refine Zf [1] Tryz.func94 rfl ZiW ?_;simp (disch:=omega) only [Tryz.f94,go_sem,seval];refine YO (Fg (e:=3) (cl:=c) (xs:=l.map eI) Tryz.underlying34 (by rfl) Zb fun b hb=> ?_);refine Zg [] _ _ _ _ ?_;simp (disch:=omega) only [go_sem,seval];refine cD ?_ ?_<;>intro h<;>simp (disch:=omega) only [Sh.out h,go_sem,seval]
 ·have:l= []:=by simpa using hb h
  subst this;exact ⟨_,_,Weak.nil 0 1 rfl Zb,rfl,rfl⟩
 ·refine Zg [] _ _ _ _ ?_;simp (disch:=omega) only [go_sem,seval];exact we
theorem Aa {P:Program} {e:TypeId} {k:Nat} {cs:List PV} {kk:IntKind} {n:Int} {x:PV} (h0:0<=n) (h1:n<k) (hx:apart P e cs n.toNat=some x) (ht:Y2 P e=some 1):Mi P (some (.array k e)) (.p (.agg cs)) (.p (.int kk n))=some (.p x):=by
 simp_all [Mi]
def Zg8 (s:Sco):PV:= .agg [.int .i64 s.cost,.int .i64 s.moved,.int .i64 s.other,.int .i64 s.work]
@[go_sem] theorem Zk3 (s:Sco):Zg8 s= .agg [.int .i64 s.cost,.int .i64 s.moved,.int .i64 s.other,.int .i64 s.work]:=Zl rfl rfl
theorem lD (s:Sco):PC 201 [.p (Ek s)] (Zg8 s):=by
 refine Zf [] Tryz.func201 rfl Zbg ?_;simp (disch:=omega) only [Tryz.f201,go_sem,seval];exact we
def scoR (B:Int) (s:Sco):Prop:=(-B<=s.cost/\s.cost<=B)/\(-B<=s.moved/\s.moved<=B)/\(-B<=s.other/\s.other<=B)/\(-B<=s.work/\s.work<=B)
def oW (s:Sco):AM.Obj:= .cells [.p (.int .i64 s.cost),.p (.int .i64 s.moved),.p (.int .i64 s.other),.p (.int .i64 s.work)]
def YB (s:Sco):Int×Int:=if s.cost<0\/s.moved<0\/s.other<0\/s.work<0 then (0,2) else if 1073741824<s.cost\/16<=s.moved\/16<=s.other\/65536<=s.work then (0,4) else (((s.cost*16+s.moved)*16+s.other)*65536+s.work,0)
theorem HT (s:Sco) (hs:scoR 1152921504606846976 s):PT 168 [.p (Ek s)] [.p (.int .i64 (YB s).1),.p (.int .i64 (YB s).2)]:=by
 obtain ⟨a1,a2,a3,a4⟩:=hs;refine Zf [] Tryz.func168 rfl ZaQ ?_;simp (disch:=omega) only [Tryz.f168,go_sem,seval];refine (lD s).use (Zc ?_);refine Zm [1,9] (fun k:Nat=> [(10,.p (.int .i64 k))]) (fun _=> [oW s,oW s]) (fun k=>k<=4/\(0<k->0<=s.cost)/\(1<k->0<=s.moved)/\(2<k->0<=s.other)/\(3<k->0<=s.work)) (fun k=>4-k) 0 ⟨Za,Za,Za,Za,Za⟩ (Weak.mk ?_) ?_
 ·simp (disch:=omega) only [oW,go_sem,seval]
 ·rintro k ⟨hk,k1,k2,k3,k4⟩;simp (disch:=omega) only [oW,go_sem,seval];refine cD ?_ ?_<;>intro h1<;>simp (disch:=omega) only [Sh.out h1,go_sem,seval,↓reduceIte]
  ·have:k=0\/k=1\/k=2\/k=3:=Za
   rcases this with rfl | rfl | rfl | rfl
   ·rw [Aa (x:= .int .i64 s.cost) Za Za (by rfl) Ze];refine Zc ?_;refine ZO ?_ ?_<;>intro h2
    ·have e:YB s=(0,2):=by simp_all [YB]
     rw [e];exact we
    ·exact ⟨1,⟨Za,fun _=>Za,Za,Za,Za⟩,Za,wk⟩
   ·rw [Aa (x:= .int .i64 s.moved) Za Za (by rfl) Ze];refine Zc ?_;refine ZO ?_ ?_<;>intro h2
    ·have e:YB s=(0,2):=by simp_all [YB]
     rw [e];exact we
    ·exact ⟨2,⟨Za,fun _=>k1 Za,fun _=>Za,Za,Za⟩,Za,wk⟩
   ·rw [Aa (x:= .int .i64 s.other) Za Za (by rfl) Ze];refine Zc ?_;refine ZO ?_ ?_<;>intro h2
    ·have e:YB s=(0,2):=by simp_all [YB]
     rw [e];exact we
    ·exact ⟨3,⟨Za,fun _=>k1 Za,fun _=>k2 Za,fun _=>Za,Za⟩,Za,wk⟩
   ·rw [Aa (x:= .int .i64 s.work) Za Za (by rfl) Ze];refine Zc ?_;refine ZO ?_ ?_<;>intro h2
    ·have e:YB s=(0,2):=by simp_all [YB]
     rw [e];exact we
    ·exact ⟨4,⟨Za,fun _=>k1 Za,fun _=>k2 Za,fun _=>k3 Za,fun _=>Za⟩,Za,wk⟩
  ·have hk4:k=4:=Za
   subst hk4;have g1:=k1 Za;have g2:=k2 Za;have g3:=k3 Za;have g4:=k4 Za
   have n1: ¬(s.cost<0\/s.moved<0\/s.other<0\/s.work<0):=Za
   have bad:(1073741824<s.cost\/16<=s.moved\/16<=s.other\/65536<=s.work)->YB s=(0,4):=fun h=>by simp_all [YB]
   refine gF ?_ ?_<;>intro h2<;>simp (disch:=omega) only [Sh.out h2,go_sem,seval,↓reduceIte]
   ·rw [bad Za];exact we
   ·refine gF ?_ ?_<;>intro h3<;>simp (disch:=omega) only [Sh.out h3,go_sem,seval,↓reduceIte]
    ·rw [bad Za];exact we
    ·refine gF ?_ ?_<;>intro h4<;>simp (disch:=omega) only [Sh.out h4,go_sem,seval,↓reduceIte]
     ·rw [bad Za];exact we
     ·refine cD ?_ ?_<;>intro h5<;>simp (disch:=omega) only [Sh.out h5,go_sem,seval,↓reduceIte]
      ·rw [bad Za];exact we
      ·have e:YB s=(((s.cost*16+s.moved)*16+s.other)*65536+s.work,0):=by simp_all [YB,if_neg]
       rw [e];exact we
def unsF (x:Inst) (i:Int):Sco×Int :=
 if i<0\/(x.orders.length:Int)<=i then (zSco,2)
 else if (nth x.orders i.toNat).off=true then (zSco,9)
 else if (nth x.orders i.toNat).penalty= -1 then (zSco,23)
 else (⟨(nth x.orders i.toNat).penalty,if (nth x.orders i.toNat).now= -1 then 0 else 1,0,0⟩,0)
theorem ND (x:Inst) (i:Int) (ho:x.orders.length<=1048576):PT 167 [.p (Zv x),.p (.int .i64 i)] [.p (Ek (unsF x i).1),.p (.int .i64 (unsF x i).2)]:=by
 refine Zf [] Tryz.func167 rfl ZaP ?_;simp (disch:=omega) only [Tryz.f167,go_sem,seval];refine gF ?_ ?_<;>intro h1<;>simp (disch:=omega) only [Sh.out h1,go_sem,seval,↓reduceIte]
 ·have e:unsF x i=(zSco,2):=by simp_all [unsF]
  rw [e];exact we (by simp (disch:=omega) only [zSco,go_sem,seval])
 ·refine cD ?_ ?_<;>intro h2<;>simp (disch:=omega) only [Sh.out h2,go_sem,seval,↓reduceIte]
  ·have e:unsF x i=(zSco,2):=by simp_all [unsF]
   rw [e];exact we (by simp (disch:=omega) only [zSco,go_sem,seval])
  ·have hi:i.toNat<x.orders.length:=Za
   have n1: ¬(i<0\/(x.orders.length:Int)<=i):=Za
   refine cD ?_ ?_<;>intro h3<;>simp (disch:=omega) only [Sh.out h3,go_sem,seval,↓reduceIte]
   ·have e:unsF x i=(zSco,9):=by simp_all [unsF]
    rw [e];exact we (by simp (disch:=omega) only [zSco,go_sem,seval])
   ·have h3': ¬(nth x.orders i.toNat).off=true:=by rw [h3];simp
    refine cD ?_ ?_<;>intro h4<;>simp (disch:=omega) only [Sh.out h4,go_sem,seval,↓reduceIte]
    ·have e:unsF x i=(zSco,23):=by simp_all [unsF]
     rw [e];exact we (by simp (disch:=omega) only [zSco,go_sem,seval])
    ·refine cD ?_ ?_<;>intro h5<;>simp (disch:=omega) only [Sh.out h5,go_sem,seval,↓reduceIte]
     ·have e:unsF x i=(⟨(nth x.orders i.toNat).penalty,1,0,0⟩,0):=by simp_all [unsF]
      rw [e];exact we
     ·have h5':(nth x.orders i.toNat).now= -1:=Za
      have e:unsF x i=(⟨(nth x.orders i.toNat).penalty,0,0,0⟩,0):=by simp_all [unsF]
      rw [e];exact we
theorem L6 (x:Inst) (i:Int) (ho:x.orders.length<=1048576):PT 56 [.p (Zv x),.p (.int .i64 i)] [.p (Ek (unsF x i).1),.p (.int .i64 (unsF x i).2)]:=by
 refine Zf [] Tryz.func56 rfl Zit ?_;simp (disch:=omega) only [Tryz.f56,go_sem,seval];refine gF ?_ ?_<;>intro h1<;>simp (disch:=omega) only [Sh.out h1,go_sem,seval,↓reduceIte]
 ·have e:unsF x i=(zSco,2):=by simp_all [unsF]
  rw [e];exact we (by simp (disch:=omega) only [zSco,go_sem,seval])
 ·refine cD ?_ ?_<;>intro h2<;>simp (disch:=omega) only [Sh.out h2,go_sem,seval,↓reduceIte]
  ·have e:unsF x i=(zSco,2):=by simp_all [unsF]
   rw [e];exact we (by simp (disch:=omega) only [zSco,go_sem,seval])
  ·have hi:i.toNat<x.orders.length:=Za
   have n1: ¬(i<0\/(x.orders.length:Int)<=i):=Za
   refine cD ?_ ?_<;>intro h3<;>simp (disch:=omega) only [Sh.out h3,go_sem,seval,↓reduceIte]
   ·have e:unsF x i=(zSco,9):=by simp_all [unsF]
    rw [e];exact we (by simp (disch:=omega) only [zSco,go_sem,seval])
   ·have h3': ¬(nth x.orders i.toNat).off=true:=by rw [h3];simp
    refine cD ?_ ?_<;>intro h4<;>simp (disch:=omega) only [Sh.out h4,go_sem,seval,↓reduceIte]
    ·have e:unsF x i=(zSco,23):=by simp_all [unsF]
     rw [e];exact we (by simp (disch:=omega) only [zSco,go_sem,seval])
    ·refine cD ?_ ?_<;>intro h5<;>simp (disch:=omega) only [Sh.out h5,go_sem,seval,↓reduceIte]
     ·have e:unsF x i=(⟨(nth x.orders i.toNat).penalty,1,0,0⟩,0):=by simp_all [unsF]
      rw [e];exact we
     ·have h5':(nth x.orders i.toNat).now= -1:=Za
      have e:unsF x i=(⟨(nth x.orders i.toNat).penalty,0,0,0⟩,0):=by simp_all [unsF]
      rw [e];exact we
def Ua (s:Sco):Bool:=decide (0<=s.cost)&&decide (s.cost<=1073741824)&&decide (0<=s.moved)&&decide (s.moved<=15)&&decide (0<=s.other)&&decide (s.other<=15)&&decide (0<=s.work)&&decide (s.work<=65535)
theorem bJ (s:Sco):PC 57 [.p (Ek s)] (.bool (Ua s)):=by
 refine Zd Tryz.func57 rfl Ziu ?_;simp (disch:=omega) only [Tryz.f57,go_sem,seval];refine gT ?_ ?_<;>intro h1<;>simp (disch:=omega) only [Sh.out h1,go_sem,seval,↓reduceIte]
 ·refine gT ?_ ?_<;>intro h2<;>simp (disch:=omega) only [Sh.out h2,go_sem,seval,↓reduceIte]
  ·refine gT ?_ ?_<;>intro h3<;>simp (disch:=omega) only [Sh.out h3,go_sem,seval,↓reduceIte]
   ·refine gT ?_ ?_<;>intro h4<;>simp (disch:=omega) only [Sh.out h4,go_sem,seval,↓reduceIte]
    ·refine gT ?_ ?_<;>intro h5<;>simp (disch:=omega) only [Sh.out h5,go_sem,seval,↓reduceIte]
     ·refine gT ?_ ?_<;>intro h6<;>simp (disch:=omega) only [Sh.out h6,go_sem,seval,↓reduceIte]
      ·refine gT ?_ ?_<;>intro h7<;>simp (disch:=omega) only [Sh.out h7,go_sem,seval,↓reduceIte]
       ·grind [Ua]
       grind [Ua]
      grind [Ua]
     grind [Ua]
    grind [Ua]
   grind [Ua]
  grind [Ua]
 ·simp [Ua,h1]
theorem GK (s:Sco) (hs:scoR 1152921504606846976 s):PT 33 [.p (Ek s)] [.p (.int .i64 (YB s).1),.p (.int .i64 (YB s).2)]:=by
 obtain ⟨a1,a2,a3,a4⟩:=hs
 have bad:(s.cost<0\/s.moved<0\/s.other<0\/s.work<0)->YB s=(0,2):=fun h=>by rw [YB,if_pos h]
 refine Zf [] Tryz.func33 rfl Zib ?_;simp (disch:=omega) only [Tryz.f33,go_sem,seval];refine gF ?_ ?_<;>intro h1<;>simp (disch:=omega) only [Sh.out h1,go_sem,seval,↓reduceIte]
 ·rw [bad Za];exact we
 ·refine gF ?_ ?_<;>intro h2<;>simp (disch:=omega) only [Sh.out h2,go_sem,seval,↓reduceIte]
  ·rw [bad Za];exact we
  ·refine gF ?_ ?_<;>intro h3<;>simp (disch:=omega) only [Sh.out h3,go_sem,seval,↓reduceIte]
   ·rw [bad Za];exact we
   ·refine cD ?_ ?_<;>intro h4<;>simp (disch:=omega) only [Sh.out h4,go_sem,seval,↓reduceIte]
    ·rw [bad Za];exact we
    ·have n1: ¬(s.cost<0\/s.moved<0\/s.other<0\/s.work<0):=Za
     refine (bJ s).use (Zc ?_);refine cD ?_ ?_<;>intro h5<;>simp (disch:=omega) only [Sh.out h5,go_sem,seval,↓reduceIte]
     ·have e:YB s=(0,4):=by
       have h6: ¬Ua s=true:=by grind
       rw [YB,if_neg n1,if_pos];refine JW fun h7=>h6 ?_;simp [Ua];omega
      rw [e];exact we
     ·have h6:Ua s=true:=by grind
      simp [Ua] at h6
      have e:YB s=(((s.cost*16+s.moved)*16+s.other)*65536+s.work,0):=by rw [YB,if_neg n1,if_neg Za]
      rw [e];refine Zc ?_;exact we
def aX (s:Sco):Prop:=0<=s.cost/\0<=s.moved/\0<=s.other/\0<=s.work
theorem Oj {s:Sco} (hs:aX s):(YB s).2=0↔s.cost<=1073741824/\s.moved<16/\s.other<16/\s.work<65536:=by
 obtain ⟨a1,a2,a3,a4⟩:=hs;unfold YB
 grind
theorem nM {s:Sco} (hs:aX s) (h:(YB s).2=0):(YB s).1=((s.cost*16+s.moved)*16+s.other)*65536+s.work:=by
 have h:=(Oj hs).1 h;obtain ⟨a1,a2,a3,a4⟩:=hs
 simp_all [YB,if_neg]
theorem Od {x:Inst} (hx:InstOk x) (i:Int):scoR 1073741824 (unsF x i).1:=by
 unfold unsF
 split
 ·simp [scoR,zSco]
 ·split
  ·simp [scoR,zSco]
  ·split
   ·simp [scoR,zSco]
   ·have ha:=(hx.orders.2 i.toNat Za).arg;simp only [argOk,rng,ZB,Zq] at ha
    grind [scoR]
theorem AQ {a:Sco} {B C:Int} (h:B<=C) (ha:scoR B a):scoR C a:=by
 grind [scoR]
def ML (x:Inst) (t:Typ) (r:Rte) (c:Bool) (sp:List Stp):PV:= .agg [.list x.net.places_c (x.net.places.map eS),.list x.net.arcs_c (x.net.arcs.map VW),.list x.types_c (x.types.map X4),.list x.orders_c (x.orders.map Yh),.list x.apart_c (x.apart.map eP),.list x.before_c (x.before.map eP),.str t.name,.int .i64 t.count,.int .i64 t.src,.int .i64 t.dst,.list t.cap_c (t.cap.map eI),.int .i64 t.skills,.int .i64 t.prof,.int .i64 t.opn,.int .i64 t.cls,.int .i64 t.drive,.int .i64 t.rest,.int .i64 t.fixed,.int .i64 t.perMile,.int .i64 t.perTick,.int .i64 r.typ,.int .i64 r.start,.list r.rests_c (r.rests.map eB),.list r.visits_c (r.visits.map Z9),.list c (sp.map Ft)]
@[go_sem] theorem Zlm (x:Inst) (t:Typ) (r:Rte) (c:Bool) (sp:List Stp):ML x t r c sp= .agg [.list x.net.places_c (x.net.places.map eS),.list x.net.arcs_c (x.net.arcs.map VW),.list x.types_c (x.types.map X4),.list x.orders_c (x.orders.map Yh),.list x.apart_c (x.apart.map eP),.list x.before_c (x.before.map eP),.str t.name,.int .i64 t.count,.int .i64 t.src,.int .i64 t.dst,.list t.cap_c (t.cap.map eI),.int .i64 t.skills,.int .i64 t.prof,.int .i64 t.opn,.int .i64 t.cls,.int .i64 t.drive,.int .i64 t.rest,.int .i64 t.fixed,.int .i64 t.perMile,.int .i64 t.perTick,.int .i64 r.typ,.int .i64 r.start,.list r.rests_c (r.rests.map eB),.list r.visits_c (r.visits.map Z9),.list c (sp.map Ft)]:=Zl rfl rfl
def Zdk (x:Inst) (t:Typ) (r:Rte):List V:= [.p (.list x.net.places_c (x.net.places.map eS)),.p (.list x.net.arcs_c (x.net.arcs.map VW)),.p (.list x.types_c (x.types.map X4)),.p (.list x.orders_c (x.orders.map Yh)),.p (.list x.apart_c (x.apart.map eP)),.p (.list x.before_c (x.before.map eP)),.p (.str t.name),.p (.int .i64 t.count),.p (.int .i64 t.src),.p (.int .i64 t.dst),.p (.list t.cap_c (t.cap.map eI)),.p (.int .i64 t.skills),.p (.int .i64 t.prof),.p (.int .i64 t.opn),.p (.int .i64 t.cls),.p (.int .i64 t.drive),.p (.int .i64 t.rest),.p (.int .i64 t.fixed),.p (.int .i64 t.perMile),.p (.int .i64 t.perTick),.p (.int .i64 r.typ),.p (.int .i64 r.start),.p (.list r.rests_c (r.rests.map eB)),.p (.list r.visits_c (r.visits.map Z9))]
def Wb (x:Inst) (t:Typ) (r:Rte) (c:Bool) (sp:List Stp):AM.Obj:= .cells [.p (.list x.net.places_c (x.net.places.map eS)),.p (.list x.net.arcs_c (x.net.arcs.map VW)),.p (.list x.types_c (x.types.map X4)),.p (.list x.orders_c (x.orders.map Yh)),.p (.list x.apart_c (x.apart.map eP)),.p (.list x.before_c (x.before.map eP)),.p (.str t.name),.p (.int .i64 t.count),.p (.int .i64 t.src),.p (.int .i64 t.dst),.p (.list t.cap_c (t.cap.map eI)),.p (.int .i64 t.skills),.p (.int .i64 t.prof),.p (.int .i64 t.opn),.p (.int .i64 t.cls),.p (.int .i64 t.drive),.p (.int .i64 t.rest),.p (.int .i64 t.fixed),.p (.int .i64 t.perMile),.p (.int .i64 t.perTick),.p (.int .i64 r.typ),.p (.int .i64 r.start),.p (.list r.rests_c (r.rests.map eB)),.p (.list r.visits_c (r.visits.map Z9)),.p (.list c (sp.map Ft))]
def Zdw : AM.Obj:= .cells [.p (.list true []),.p (.list true []),.p (.list true []),.p (.list true []),.p (.list true []),.p (.list true []),.p (.str []),.p (.int .i64 0),.p (.int .i64 0),.p (.int .i64 0),.p (.list true []),.p (.int .i64 0),.p (.int .i64 0),.p (.int .i64 0),.p (.int .i64 0),.p (.int .i64 0),.p (.int .i64 0),.p (.int .i64 0),.p (.int .i64 0),.p (.int .i64 0),.p (.int .i64 0),.p (.int .i64 0),.p (.list true []),.p (.list true []),.p (.list true [])]
def JH (L:Lab):PV:= .agg [.int .i64 L.ready,.int .i64 L.since,.bool L.she.rest,.int .i64 L.she.dep,.list L.she.times_c (L.she.times.map eTim),.int .i64 L.she.fin,.int .i64 L.she.miles]
@[go_sem] theorem Zlc (L:Lab):JH L= .agg [.int .i64 L.ready,.int .i64 L.since,.bool L.she.rest,.int .i64 L.she.dep,.list L.she.times_c (L.she.times.map eTim),.int .i64 L.she.fin,.int .i64 L.she.miles]:=Zl rfl rfl
@[go_sem] theorem Zd0 (l:List Lab):BT 7 (l.map JH)=true:=BU (f:=JH) (S:=7) (fun _=>rfl) l
def W0 (L:Lab):AM.Obj:= .cells [.p (.int .i64 L.ready),.p (.int .i64 L.since),.p (.bool L.she.rest),.p (.int .i64 L.she.dep),.p (.list L.she.times_c (L.she.times.map eTim)),.p (.int .i64 L.she.fin),.p (.int .i64 L.she.miles)]
theorem fU (l:List Tim) (c:Bool) (hl:l.length<=1048576):ACalls Tryz.prog 289 [.p (.list c (l.map eTim))] [] fun x H'=>x= .sl 0 0 l.length l.length/\H'= [.elems 4 (l.map eTim)]:=by
 suffices hh:ACalls Tryz.prog 289 [.p (.list c (l.map eTim))] [] fun x H'=> ∃m:List Tim,m=l/\x= .sl 0 0 m.length m.length/\H'= [.elems 4 (m.map eTim)] by
  grind
 refine Zf [1] Tryz.func289 rfl Zcq ?_;simp (disch:=omega) only [Tryz.f289,go_sem,seval];refine YO (YO (pS 1 rfl rfl ?_));refine ⟨_,sK (e:=299) rfl Tryz.underlying116 rfl (fun _=>rfl),?_⟩;rintro _ ⟨b,rfl,hb⟩;refine Zc ?_;refine Zg [] _ _ _ _ ?_
 cases b with
 | true =>
  have hn:l= []:=by simp_all
  subst hn;refine Zc ?_;exact ⟨_,_,Weak.ofNil 0 4 rfl Zb (wk),[],rfl,rfl,rfl⟩
 | false =>
  refine Zc ?_;refine Zg [] _ _ _ _ (Zc ?_);exact ⟨.sl 0 0 l.length l.length,[.elems 4 (l.map eTim)],wk,l,rfl,rfl,rfl⟩
theorem Hi (x:Inst) (t:Typ) (r:Rte) (c:Bool) (sp:List Stp):PC 257 [.p (ML x t r c sp)] (JH (labF t r.start)):=by
 refine Zf [] Tryz.func257 rfl ZbU ?_;simp (disch:=omega) only [Tryz.f257,go_sem,seval];exact we (by simp (disch:=omega) only [labF,zShe,Zn,go_sem,seval])
theorem lL (x:Inst) (t:Typ) (r:Rte) (c:Bool) (sp:List Stp) (k:Nat) (hk:k<=sp.length) (hl:sp.length<=1048576):PC 290 [.p (ML x t r c sp),.p (.int .i64 (k:Nat))] (.int .i64 (V9 t sp k)):=by
 refine Zd Tryz.func290 rfl Zcr ?_;simp (disch:=omega) only [Tryz.f290,go_sem,seval];refine cD ?_ ?_<;>intro h<;>simp (disch:=omega) only [Sh.out h,go_sem,seval,↓reduceIte]
 ·simp_all [V9]
 simp_all [V9]
theorem ZcU (x:Inst) (r:Rte) (hx:InstOk x) (hty:0<=r.typ/\r.typ<(x.types.length:Int)) (h0:Xj x r.visits=0) (hs:0<=r.start/\r.start<=4096) :
  PT 256 [.p (Zv x),.p (WG r)] [.p (ML x (ZE x r) r false (ZM x r.visits)),.p (.bool true)]:=by
 have hd:=Qv hx;have hsq:=VS h0;have hol:=hd.ord;have htl:=hd.typ;have hvl:=hsq.len hol
 have e1: ¬r.typ<0:=Za
 have e2: ¬(x.types.length:Int)<=r.typ:=Za
 have e3: ¬r.start<0:=Za
 have e4: ¬ 4096<r.start:=Za
 have e5: ¬ 20<(r.visits.length:Int):=Za
 refine Zf [12] Tryz.func256 rfl jK ?_;simp (disch:=omega) only [Tryz.f256,e1,e2,e3,e4,e5,go_sem,seval];refine X0 [9] 10 mixed Ze Ze Ze Zb (Zc ?_);refine Xr 9 _ _ Ze (by refine Zc ?_;exact ⟨rfl,rfl⟩) (Wz ?_);refine Zc ?_
 refine Z4 [12] [2,4,6,49,50] (fun q:Nat×List Stp=> [(51,.p (.int .i64 q.1))])
  (fun q=> [Zj x,Xu r,Zdw,.cells (Zdk x (ZE x r) r++ [.sl 4 0 q.2.length q.2.length]),.elems 4 (q.2.map Ft)])
  (fun q=>q.1<=r.visits.length/\q.2=(ZM x r.visits).take q.1) (fun q=>r.visits.length-q.1) (0,[]) Zb ((Weak.nilC (o:=3) (j:=24) 4 rfl rfl Zb).trans (Weak.mk ?_)) ?_
 ·simp (disch:=omega) only [Zj,Xu,Zdw,Zdk,ZE,Zn,ZF,Z6,ZX,ZK,Zy,go_sem,seval]
 ·rintro ⟨k,o⟩ ⟨hk,ho⟩;simp only at hk ho
  have hol2:o.length=k:=by grind [Yc]
  simp (disch:=omega) only [Zj,Xu,Zdw,Zdk,go_sem,seval];refine cD ?_ ?_<;>intro h1<;>simp (disch:=omega) only [Sh.out h1,go_sem,seval,↓reduceIte]
  ·have hk2:k<r.visits.length:=Za
   have hvis:=hsq.vis (Zt hk2);simp only [K7,ZB,Zq] at hvis
   have hsn:o++ [Xk x (nth r.visits k)]=(ZM x r.visits).take (k+1):=by
    rw [ho,Yb (by grind [Yc]),<- Zh,GC hk2]
   have hnp: ¬(Xk x (nth r.visits k)).place<0:=Za
   refine Yg (Sw x (nth r.visits k) Za hvis.1 hvis.2) ?_;simp (disch:=omega) only [hnp,go_sem,seval];exact ⟨(k+1,o++ [Xk x (nth r.visits k)]),⟨Za,hsn⟩,Za,Weak.mk (by simp (disch:=omega) only [ZH,ZD,ZF,Xz,Zr,Zn,go_sem,seval])⟩
  ·have hkl:k=r.visits.length:=Za
   subst hkl
   have hso:o=ZM x r.visits:=by grind [Yc]
   subst hso;refine Zp (Weak.fz (o:=4) (by rfl)) (Zg [] _ _ _ _ (UM ?_));exact we
def N0 (rd sn:Int) (m:She):AM.Obj:= .cells [.p (.int .i64 rd),.p (.int .i64 sn),.p (.bool m.rest),.p (.int .i64 m.dep),.sl 4 0 m.times.length m.times.length,.p (.int .i64 m.fin),.p (.int .i64 m.miles)]
theorem Fx {P:Program} {H:List AM.Obj} {f ars} {a b d:PV} {B:V->Prop} {t} (h:ACalls P f ars [] fun x H'=>x= .tup [.p a,.p b,.p d]/\H'= []) (k:B (.tup [.p a,.p b,.p d])) (ha:Xn 0 ars=true:=by rfl) :
  TP (fun y=>ACalls P f ars H (Zu (Zu (fun x H'=>x=y/\H'=H) ⟨⟩) ⟨⟩)) (Zu B t) :=
 ⟨.tup [.p a,.p b,.p d],(h.behind ha H).mono fun x H' hq=>by
  obtain ⟨y,H1,⟨rfl,rfl⟩,rfl,rfl⟩:=hq
  simp [shV,shVs,Zu],k⟩
theorem ZcI (x:Inst) (t:Typ) (r:Rte) (c:Bool) (sp:List Stp) (hok:TrpOk x t sp) (k:Nat) (hk:k<=sp.length) (hs1:0<sp.length) (L:Lab) (hL:LabR k L) (hlen:L.she.times.length=k) (hclip:0<k->L.she.times_c=false) (b:Bool) :
  PT 278 [.p (ML x t r c sp),.p (JH L),.p (.int .i64 (k:Nat)),.p (.bool b)] [.p (JH (nxtF x t sp k L b).1),.p (.int .i64 (nxtF x t sp k L b).2)]:=by
 have hd:=Ku hok hL b;have hsn:=Gz hL b;have hg:=I6 hok hL b;have hmi:=hL.mil;have hrd:=hL.rdy;have hsnL:=hL.snc;have hsl:=hok.len;have hrst:=hok.rst;unfold nxtF;have hmm:= @KJ k (ZJ t L b) b L.she;have hmf:= @HO k (ZJ t L b) b L.she;have hml:= @AG k (ZJ t L b) b L.she;refine Zf [2,7,14,31] Tryz.func278 rfl Zcf ?_;simp (disch:=omega) only [Tryz.f278,go_sem,seval];refine Xo (Zc ?_);refine ZI [2,3,4,5,8] (fun _:Unit=> [(10,.p (.int .i64 (ZJ t L b))),(11,.p (.int .i64 (WU L b)))]) (fun _=> [Wb x t r c sp,W0 L,W0 WX]) (fun _=>True) ?_ ?_
 ·refine Zc ?_;refine ZO ?_ ?_<;>intro h
  ·subst h;exact ⟨(),Weak.mk (by simp (disch:=omega) only [Wb,W0,WX,zShe,ZJ,WU,Zn,go_sem,seval,↓reduceIte])⟩
  ·subst h;exact ⟨(),Weak.mk (by simp (disch:=omega) only [Wb,W0,WX,zShe,ZJ,WU,Zn,go_sem,seval,↓reduceIte])⟩
 ·intro _ _;refine Zg [7,14,31] _ _ _ _ ?_;simp (disch:=omega) only [Wb,W0,WX,zShe,Zn,go_sem,seval];refine (fU L.she.times L.she.times_c Za).useF (Zc ?_)
  generalize hM:XZ k (ZJ t L b) b L.she=M at *
  refine ZI [2,4,8,10,11,12] (fun _:Unit=> []) (fun _=> [Wb x t r c sp,W0 L,W0 WX,N0 0 0 M,.elems 4 (M.times.map eTim)]) (fun _=>True) ?_ ?_
  ·refine Zc ?_;refine ZO ?_ ?_<;>intro h
   ·have hk0:k=0:=Za
    subst hk0
    have e:M= { L.she with rest:=b,dep:=ZJ t L b } :=by rw [<- hM,XZ,if_pos rfl]
    rw [e];exact ⟨(),Weak.mk (by simp (disch:=omega) only [Wb,W0,WX,zShe,N0,Zn,go_sem,seval])⟩
   ·have e1:((k:Int)-1).toNat=k-1:=Za
    have hk1:k-1<L.she.times.length:=Za
    have RW:(L.she.times.map eTim).set (k-1) (PV.agg [.int .i64 (nth L.she.times (k-1)).arr,.int .i64 (nth L.she.times (k-1)).beg,.int .i64 (nth L.she.times (k-1)).dep,.bool b])=(L.she.times.set (k-1) { nth L.she.times (k-1) with rest:=b }).map eTim:=by
     rw [UT];rfl
    have hn1:nth (L.she.times.set (k-1) { nth L.she.times (k-1) with rest:=b }) (k-1)= { nth L.she.times (k-1) with rest:=b } :=by
     grind [Zh]
    have hl1:(L.she.times.set (k-1) { nth L.she.times (k-1) with rest:=b }).length=L.she.times.length:=Zb
    have hMt:M.times=(L.she.times.set (k-1) { nth L.she.times (k-1) with rest:=b }).set (k-1) { nth (L.she.times.set (k-1) { nth L.she.times (k-1) with rest:=b }) (k-1) with dep:=ZJ t L b } :=by
     rw [hn1,List.set_set,<- hM,XZ,if_neg Za];rfl
    have hM2:M.rest=L.she.rest/\M.dep=L.she.dep:=by rw [<- hM,XZ,if_neg Za];simp
    simp (disch:=first | omega | (simp only [ZD,ZF,ZH,Z1,Xs,XI]<;>omega)) only [e1,go_sem,seval,↓reduceIte];rw [RW]
    generalize L.she.times.set (k-1) { nth L.she.times (k-1) with rest:=b } =l1 at *
    simp (disch:=first | omega | (simp only [ZD,ZF,ZH,Z1,Xs,XI]<;>omega)) only [e1,hl1,eq_self,VH,go_sem,seval];refine ⟨(),Weak.mk ?_⟩;simp (disch:=omega) only [Wb,W0,WX,zShe,N0,Zn,hM2.1,hM2.2,hmm,hmf,hml,go_sem,seval];rw [hMt,UT]
    rfl
  ·intro _ _;refine Zg [14,31] _ _ _ _ ?_;simp (disch:=omega) only [Wb,W0,WX,zShe,N0,Zn,go_sem,seval];refine ZI [2,4,8,10,11,12,13] (fun _:Unit=> [(14,.p (.int .i64 (Ow t sp k)))]) (fun _=> [Wb x t r c sp,W0 L,W0 WX,N0 0 0 M,.elems 4 (M.times.map eTim)]) (fun _=>True) ?_ ?_
   ·refine Zc ?_;refine ZO ?_ ?_<;>intro h
    ·have e:Ow t sp k=(nth sp k).place:=by rw [Ow,if_neg Za]
     exact ⟨(),Weak.mk (by simp (disch:=omega) only [Wb,W0,WX,zShe,N0,Zn,e,go_sem,seval])⟩
    ·have e:Ow t sp k=t.dst:=by rw [Ow,if_pos Za]
     exact ⟨(),Weak.mk (by simp (disch:=omega) only [Wb,W0,WX,zShe,N0,Zn,e,go_sem,seval])⟩
   ·intro _ _;refine Zg [31] _ _ _ _ ?_;simp (disch:=omega) only [Wb,W0,WX,zShe,N0,Zn,go_sem,seval];refine Xo (Zc ?_);refine Zo (lL x t r c sp k hk Za) (Zc ?_);refine Fx (wL x.net t.prof (V9 t sp k) (Ow t sp k) (ZJ t L b) hok.net Za) (Zc ?_);have hG:WZ x.net t.prof (V9 t sp k) (Ow t sp k) (ZJ t L b)=Y1 x t sp k (ZJ t L b):=rfl;rw [hG];clear hG
    generalize Y1 x t sp k (ZJ t L b)=g at *
    generalize ZJ t L b=d at *
    generalize WU L b=s at *
    refine cD ?_ ?_<;>intro h1<;>simp (disch:=omega) only [Sh.out h1,go_sem,seval,↓reduceIte]
    ·have e:WE t sp k g d s M=(WX,12):=by rw [WE,if_pos h1]
     rw [e];exact we (by simp (disch:=omega) only [WX,zShe,Zn,go_sem,seval])
    ·refine cD ?_ ?_<;>intro h2<;>simp (disch:=omega) only [Sh.out h2,go_sem,seval,↓reduceIte]
     ·refine cD ?_ ?_<;>intro h3<;>simp (disch:=omega) only [Sh.out h3,go_sem,seval,↓reduceIte]
      ·have e:WE t sp k g d s M=(WX,15):=by rw [WE,if_neg h1,if_pos Za,if_pos h3]
       rw [e];exact we (by simp (disch:=omega) only [WX,zShe,Zn,go_sem,seval])
      ·refine Zp (Weak.fz (o:=4) (by rfl)) (Zg [] _ _ _ _ (UM ?_));refine cD ?_ ?_<;>intro h4<;>simp (disch:=omega) only [Sh.out h4,go_sem,seval,↓reduceIte]
       ·have e:WE t sp k g d s M=(WX,16):=by rw [WE,if_neg h1,if_pos Za,if_neg h3,if_pos h4]
        rw [e];exact we (by simp (disch:=omega) only [WX,zShe,Zn,go_sem,seval])
       ·have e:WE t sp k g d s M=(⟨g.1,s+g.1-d,{ M with fin:=g.1,miles:=M.miles+g.2.1 }⟩,0):=by rw [WE,if_neg h1,if_pos Za,if_neg h3,if_neg h4]
        have hMc:M.times_c=false:=by
         rw [<- hM,XZ,if_neg Za]
         grind
        rw [e];exact we (by simp (disch:=omega) only [hMc,go_sem,seval])
     ·have h2': ¬k=sp.length:=Za
      have hkl:k<sp.length:=Za
      have hstp:=hok.stp _ (ZY hkl);refine Yg (Rt (nth sp k) g.1) ?_;unfold Fj
      by_cases h3:(nth sp k).cls<max g.1 (nth sp k).opn
      ·have e:WE t sp k g d s M=(WX,14):=by simp_all [WE]
       rw [e,if_pos h3];refine Zc ?_;exact we (by simp (disch:=omega) only [WX,zShe,Zn,go_sem,seval])
      ·rw [if_neg h3];refine Zc ?_;refine Zp (Weak.fz (o:=4) (by rfl)) (Zg [] _ _ _ _ (UM ?_));refine cD ?_ ?_<;>intro h4<;>simp (disch:=omega) only [Sh.out h4,go_sem,seval,↓reduceIte]
       ·have e:WE t sp k g d s M=(WX,16):=by simp_all [WE]
        rw [e];exact we (by simp (disch:=omega) only [WX,zShe,Zn,go_sem,seval])
       ·have e:WE t sp k g d s M=(⟨max g.1 (nth sp k).opn+(nth sp k).serv,s+g.1-d,{ M with times_c:=false,times:=M.times++ [⟨g.1,max g.1 (nth sp k).opn,0,false⟩],miles:=M.miles+g.2.1 }⟩,0):=by simp_all [WE,if_neg]
        rw [e];exact we
theorem aK {x t sp k L b} (hs:0<sp.length) (hc:0<k->L.she.times_c=false) (he:(nxtF x t sp k L b).2=0):(nxtF x t sp k L b).1.she.times_c=false:=by
 have hm:0<k->(XZ k (ZJ t L b) b L.she).times_c=false:=fun h=>by rw [XZ,if_neg Za];exact hc h
 unfold nxtF at he ⊢
 generalize Y1 x t sp k (ZJ t L b)=g at *
 generalize ZJ t L b=d at *
 generalize WU L b=s at *
 generalize XZ k d b L.she=m at *
 unfold WE at he ⊢
 grind
structure LabO (n k:Nat) (L:Lab):Prop where
 rng:LabR k L
 len:k<=n->L.she.times.length=k
 clip:0<k->L.she.times_c=false
theorem HG {x t sp k L b} (hok:TrpOk x t sp) (hs:0<sp.length) (hk:k<=sp.length) (h:LabO sp.length k L) (he:(nxtF x t sp k L b).2=0):LabO sp.length (k+1) (nxtF x t sp k L b).1 :=
 ⟨Ls hok hk h.rng he,fun hk2=>FW (h.len hk) he Za,fun _=>aK hs h.clip he⟩
theorem HH {x t sp} (hok:TrpOk x t sp) {st:Int} (hst:0<=st/\st<=4096):LabO sp.length 0 (labF t st) :=
 ⟨⟨by have:=hok.opn;grind [labF],by simp [labF],by simp [labF,zShe]⟩,fun _=>rfl,fun h=>Za⟩
theorem Sp (x:Inst) (t:Typ) (r:Rte) (c:Bool) (sp:List Stp) (hok:TrpOk x t sp) (k:Nat) (hk:k<=sp.length) (hs1:0<sp.length) (L:Lab) (hL:LabO sp.length k L) (b:Bool) :
  PT 278 [.p (ML x t r c sp),.p (JH L),.p (.int .i64 (k:Nat)),.p (.bool b)] [.p (JH (nxtF x t sp k L b).1),.p (.int .i64 (nxtF x t sp k L b).2)] :=
 ZcI x t r c sp hok k hk hs1 L hL.rng (hL.len hk) hL.clip b
theorem ZjB (x:Inst) (t:Typ) (r:Rte) (c:Bool) (sp:List Stp) (hok:TrpOk x t sp) (hs1:0<sp.length) (hst:0<=r.start/\r.start<=4096) (bs:List Bool) (d:Bool) (hb:bs.length=sp.length+1) :
  PT 259 [.p (ML x t r c sp),.p (.list d (bs.map eB))] [.p (Fq (Xf x t sp 0 (labF t r.start) bs).1.she),.p (.int .i64 (Xf x t sp 0 (labF t r.start) bs).2)]:=by
 have hsl:=hok.len;refine Zf [] Tryz.func259 rfl ZbW ?_;simp (disch:=omega) only [Tryz.f259,go_sem,seval];refine (Hi x t r c sp).use (Zc ?_)
 refine Zm [2,4,6,13,14] (fun q:Nat×Lab=> [(15,.p (.int .i64 q.1))]) (fun q=> [Wb x t r c sp,.cells [.p (.bool false),.p (.int .i64 0),.p (.list true []),.p (.int .i64 0),.p (.int .i64 0)],W0 q.2])
  (fun q=>q.1<=bs.length/\Xf x t sp 0 (labF t r.start) bs=Xf x t sp q.1 q.2 (bs.drop q.1)/\LabO sp.length q.1 q.2) (fun q=>bs.length-q.1) (0,labF t r.start) ⟨Zb,Zb,HH hok hst⟩ (Weak.mk ?_) ?_
 ·simp (disch:=omega) only [Wb,W0,go_sem,seval]
 ·rintro ⟨k,L⟩ ⟨hk,hrun,hL⟩;simp only at hk hrun hL;simp (disch:=omega) only [Wb,W0,go_sem,seval];refine cD ?_ ?_<;>intro h1<;>simp (disch:=omega) only [Sh.out h1,go_sem,seval,↓reduceIte]
  ·have hk2:k<bs.length:=Za
   have hdrop:bs.drop k=nth bs k::bs.drop (k+1):=by rw [V4 hk2,Zh hk2]
   rw [hdrop,Xf] at hrun;have cn:=Sp x t r c sp hok k Za hs1 L hL (nth bs k);have hL2:=HG (x:=x) (t:=t) (b:=nth bs k) hok hs1 Za hL
   generalize nxtF x t sp k L (nth bs k)=N at *
   refine Yg cn (Zc ?_);refine ZO ?_ ?_<;>intro h2
   ·rw [hrun,if_neg h2];exact we (by simp (disch:=omega) only [WX,zShe,Zn,go_sem,seval])
   ·rw [if_pos Za] at hrun;exact ⟨(k+1,N.1),⟨Za,hrun,hL2 Za⟩,Za,wk⟩
  ·have hkl:k=bs.length:=Za
   subst hkl;rw [Qc,Xf] at hrun;rw [hrun];exact we
theorem pU (l m:Lab):PC 281 [.p (JH l),.p (JH m)] (.bool (Xg l m)):=by
 refine Zd Tryz.func281 rfl Zci ?_;simp (disch:=omega) only [Tryz.f281,go_sem,seval];refine gT ?_ ?_<;>intro h<;>simp (disch:=omega) only [Sh.out h,go_sem,seval,↓reduceIte]
 ·simp [Xg,h]
 ·simp [Xg,h]
def gH (x:Inst) (t:Typ) (r:Rte) (c:Bool) (sp:List Stp) (o:List Lab) (f z:Lab):List AM.Obj:= [Wb x t r c sp,.dead,.elems 7 (o.map JH),W0 f,W0 z]
theorem rL (x:Inst) (t:Typ) (r:Rte) (c:Bool) (sp:List Stp) (o:List Lab) (f z m:Lab):ACalls Tryz.prog 280 [.p (JH m),.ptr 4 0] (gH x t r c sp o f z) fun y H'=>y= .p (.bool (Xg m z))/\H'=gH x t r c sp o f z:=by
 refine Zf [] Tryz.func280 rfl Zch ?_;simp (disch:=omega) only [Tryz.f280,gH,Wb,W0,go_sem,seval];refine (pU m z).use (Zc ?_);exact we
theorem Pl (x:Inst) (t:Typ) (r:Rte) (c:Bool) (sp:List Stp) (o:List Lab) (f z:Lab) (hl:o.length<=2097152) :
  ACalls Tryz.prog 291 [.sl 2 0 o.length o.length,.fn (.func 280) [] [.ptr 4 0]] (gH x t r c sp o f z) fun y H'=>y= .p (.int .i64 (vX (fun m=>Xg m z) o))/\H'=gH x t r c sp o f z:=by
 refine Zf [] Tryz.func291 rfl Zcs ?_;simp (disch:=omega) only [Tryz.f291,gH,Wb,W0,go_sem,seval];refine Zm [0,1,7] (fun k:Nat=> [(8,.p (.int .i64 k))]) (fun _=>gH x t r c sp o f z) (fun k=>k<=o.length/\ ∀j,j<k->Xg (nth o j) z=false) (fun k=>o.length-k) 0 Zb (Weak.mk ?_) ?_
 ·simp (disch:=omega) only [gH,Wb,W0,go_sem,seval,↓reduceIte]
 ·rintro k ⟨hk,hno⟩;simp (disch:=omega) only [gH,Wb,W0,go_sem,seval];refine cD ?_ ?_<;>intro h<;>simp (disch:=omega) only [Sh.out h,go_sem,seval,↓reduceIte]
  ·have hk2:k<o.length:=Za
   have hg:=rL x t r c sp o f z (nth o k);simp (disch:=first | omega | (simp only [ZD,ZF,ZH,Z1,Xs,XI]<;>omega)) only [UR hk2,hk2,go_sem,seval,↓reduceIte];simp (disch:=omega) only [gH,Wb,W0,go_sem,seval] at hg;refine hg.useH (Zc ?_);refine cD ?_ ?_<;>intro h2<;>simp (disch:=omega) only [Sh.out h2,go_sem,seval,↓reduceIte]
   ·rw [iN (f:=fun m=>Xg m z) hk2 h2 hno];exact we
   ·exact ⟨k+1,⟨Za,Zs.2 ⟨hno,Za⟩⟩,Za,wk⟩
  ·have hkl:k=o.length:=Za
   subst hkl;rw [iP hno];exact we
theorem G0 (x:Inst) (t:Typ) (r:Rte) (c:Bool) (sp:List Stp) (o:List Lab) (f z:Lab) (hl:o.length<=2097152) :
  ACalls Tryz.prog 279 [.sl 2 0 o.length o.length,.fn (.func 280) [] [.ptr 4 0]] (gH x t r c sp o f z) fun y H'=>y= .p (.bool (o.any fun m=>Xg m z))/\H'=gH x t r c sp o f z:=by
 refine Zf [] Tryz.func279 rfl Zcg ?_;simp (disch:=omega) only [Tryz.f279,go_sem,seval];refine (Pl x t r c sp o f z hl).useH (Zc ?_);rw [iO];exact we (by simp (disch:=omega) only [gH,Wb,W0,go_sem,seval])
def TF (x:Inst) (t:Typ) (sp:List Stp) (r:List Bool) (k:Nat) (f:Lab) (bs:List Bool) (l:List Lab):List Lab:=bs.filterMap (XA x t sp k f)++Vq (XA x t sp) (UJ r) k l
theorem zT (x:Inst) (t:Typ) (r:Rte) (c:Bool) (sp:List Stp) (hok:TrpOk x t sp) (hs1:0<sp.length) (k:Nat) (hk:k<=sp.length) (hrl:r.rests.length<=1048576) (l:List Lab) (d:Bool) (hl:l.length<=1048576) (hL: ∀L∈l,LabO sp.length k L) :
  PC 258 [.p (ML x t r c sp),.p (.list d (l.map JH)),.p (.int .i64 (k:Nat))] (.list false ((X8 Xg [] (Vq (XA x t sp) (UJ r.rests) k l)).map JH)):=by
 have hsl:=hok.len;refine Zf [2,16] Tryz.func258 rfl ZbV ?_;simp (disch:=omega) only [Tryz.f258,go_sem,seval];refine Zp (Weak.fz (o:=1) (by rfl)) (UM ?_);refine ZI [1,2,3] (fun cb:Bool=> [(7,.p (.list cb ((UJ r.rests k).map eB)))]) (fun _=> [Wb x t r c sp,.dead]) (fun _=>True) ?_ ?_
 ·refine Zc ?_;refine ZO ?_ ?_<;>intro h
  ·have hk2:k<r.rests.length:=Za
   have e:UJ r.rests k=(r.rests.take (k+1)).drop k:=by
    grind [UJ,Yb]
   exact ⟨r.rests_c&&decide ((k:Int)+1=(r.rests.length:Int)),Weak.mk (by simp (disch:=omega) only [Wb,e,go_sem,seval])⟩
  ·have e:UJ r.rests k= [false,true]:=by grind [UJ]
   exact ⟨false,Weak.mk (by simp (disch:=omega) only [Wb,e,Zr,Zn,go_sem,seval])⟩
 ·intro cb _
  have hch:(UJ r.rests k).length<=2:=by grind [UJ]
  refine Zg [16] _ _ _ _ ?_;simp (disch:=omega) only [Wb,go_sem,seval]
  refine Z4 [16] [2,3,7,29,30] (fun q:Nat×List Lab=> [(8,.sl 2 0 q.2.length q.2.length),(31,.p (.int .i64 q.1))]) (fun q=> [Wb x t r c sp,.dead,.elems 7 (q.2.map JH)])
   (fun q=>q.1<=l.length/\X8 Xg [] (Vq (XA x t sp) (UJ r.rests) k l)=X8 Xg q.2 (Vq (XA x t sp) (UJ r.rests) k (l.drop q.1))/\q.2.length<=2*q.1) (fun q=>l.length-q.1) (0,[]) Zb (Weak.ofNil 8 7 rfl Zb (Weak.mk ?_)) ?_
  ·simp (disch:=omega) only [Wb,Zn,ZF,go_sem,seval]
  ·rintro ⟨i,o⟩ ⟨hi,hpr,hol⟩;simp only at hi hpr hol;simp (disch:=omega) only [Wb,go_sem,seval];refine cD ?_ ?_<;>intro h1<;>simp (disch:=omega) only [Sh.out h1,go_sem,seval,↓reduceIte]
   ·have hi2:i<l.length:=Za
    have hLi:=hL _ (ZY hi2)
    have hdrop:l.drop i=nth l i::l.drop (i+1):=by rw [V4 hi2,Zh hi2]
    rw [hdrop] at hpr;have hpr:X8 Xg [] (Vq (XA x t sp) (UJ r.rests) k l)=X8 Xg o (TF x t sp r.rests k (nth l i) ((UJ r.rests k).drop 0) (l.drop (i+1))):=hpr
    refine Zm [2,3,7,10,29,30,31,35,36] (fun q:Nat×List Lab=> [(8,.sl 2 0 q.2.length q.2.length),(37,.p (.int .i64 q.1))]) (fun q=> [Wb x t r c sp,.dead,.elems 7 (q.2.map JH),W0 (nth l i)])
     (fun q=>q.1<=(UJ r.rests k).length/\X8 Xg [] (Vq (XA x t sp) (UJ r.rests) k l)=X8 Xg q.2 (TF x t sp r.rests k (nth l i) ((UJ r.rests k).drop q.1) (l.drop (i+1)))/\q.2.length<=2*i+q.1) (fun q=>(UJ r.rests k).length-q.1) (0,o) ⟨Zb,hpr,hol⟩ (Weak.mk ?_) ?_
    ·simp (disch:=omega) only [Wb,W0,go_sem,seval]
    ·clear hpr hol;rintro ⟨j,o⟩ ⟨hj,hpr,hol⟩;simp only at hj hpr hol;simp (disch:=omega) only [Wb,W0,go_sem,seval];refine ZO ?_ ?_<;>intro h2
     ·have hj2:j<(UJ r.rests k).length:=Za
      have hd2:(UJ r.rests k).drop j=nth (UJ r.rests k) j::(UJ r.rests k).drop (j+1):=by rw [V4 hj2,Zh hj2]
      have cn:=Sp x t r c sp hok k hk hs1 (nth l i) hLi (nth (UJ r.rests k) j);have ho2:XA x t sp k (nth l i) (nth (UJ r.rests k) j)=if (nxtF x t sp k (nth l i) (nth (UJ r.rests k) j)).2=0 then some (nxtF x t sp k (nth l i) (nth (UJ r.rests k) j)).1 else none:=rfl;rw [hd2,TF,List.filterMap_cons,ho2] at hpr
      generalize nxtF x t sp k (nth l i) (nth (UJ r.rests k) j)=N at *
      refine Yg cn (Zc ?_);refine QS ?_ ?_<;>intro h3
      ·have hcl:=G0 x t r c sp o (nth l i) N.1 Za;simp (disch:=omega) only [gH,Wb,W0,go_sem,seval] at hcl;refine hcl.useH (Zc ?_);rw [if_pos h3] at hpr;have hpr:X8 Xg [] (Vq (XA x t sp) (UJ r.rests) k l)=if (o.any fun m=>Xg m N.1)=true then X8 Xg o (TF x t sp r.rests k (nth l i) ((UJ r.rests k).drop (j+1)) (l.drop (i+1))) else X8 Xg (o++ [N.1]) (TF x t sp r.rests k (nth l i) ((UJ r.rests k).drop (j+1)) (l.drop (i+1))):=hpr;refine ZO ?_ ?_<;>intro h4
       ·rw [if_neg (by grind)] at hpr;exact ⟨(j+1,o++ [N.1]),⟨Za,hpr,by simp;omega⟩,Za,Weak.mk (by simp (disch:=omega) only [ZH,ZD,ZF,Xz,Zr,Zn,go_sem,seval])⟩
       ·rw [if_pos (by grind)] at hpr;exact ⟨(j+1,o),⟨Za,hpr,by grind⟩,Za,wk⟩
      ·rw [if_neg h3] at hpr;exact ⟨(j+1,o),⟨Za,hpr,by grind⟩,Za,wk⟩
     ·have hjl:j=(UJ r.rests k).length:=Za
      subst hjl;rw [Qc,TF,List.filterMap_nil,Zy] at hpr;exact ⟨(i+1,o),⟨Za,hpr,by grind⟩,Za,wk⟩
   ·have hil:i=l.length:=Za
    subst hil;have e:Vq (XA x t sp) (UJ r.rests) k []= []:=rfl;rw [Qc,e,X8] at hpr;rw [hpr];refine Zp (Weak.fz (o:=2) (by rfl)) (Zg [] _ _ _ _ (UM ?_));exact we
def qO : PV:= .agg [.list true [],.list true [],.list true [],.list true [],.list true [],.list true [],.str [],.int .i64 0,.int .i64 0,.int .i64 0,.list true [],.int .i64 0,.int .i64 0,.int .i64 0,.int .i64 0,.int .i64 0,.int .i64 0,.int .i64 0,.int .i64 0,.int .i64 0,.int .i64 0,.int .i64 0,.list true [],.list true [],.list true []]
theorem sX (x:Inst) (r:Rte) (hty:0<=r.typ/\r.typ<(x.types.length:Int)) (htl:x.types.length<=1048576) (hvl:r.visits.length<=20) (hs: ¬(0<=r.start/\r.start<=4096)) :
  PT 256 [.p (Zv x),.p (WG r)] [.p qO,.p (.bool false)]:=by
 have e1: ¬r.typ<0:=Za
 have e2: ¬(x.types.length:Int)<=r.typ:=Za
 refine Zf [] Tryz.func256 rfl jK ?_;simp (disch:=omega) only [Tryz.f256,e1,e2,go_sem,seval];refine gF ?_ ?_<;>intro h1<;>simp (disch:=omega) only [Sh.out h1,go_sem,seval,↓reduceIte]
 ·exact we (by simp (disch:=omega) only [qO,go_sem,seval])
 ·refine gF ?_ ?_<;>intro h2<;>simp (disch:=omega) only [Sh.out h2,go_sem,seval,↓reduceIte]
  ·exact we (by simp (disch:=omega) only [qO,go_sem,seval])
  ·omega
theorem NL {x t sp} : ∀(bs:List Bool) (k:Nat) (L:Lab),¬(Xf x t sp k L bs).2=0->(Xf x t sp k L bs).1=WX
 | [],k,L,h=>by simp [Xf] at h
 | b::bs,k,L,h=>by
  rw [Xf] at h ⊢
  split
  ·rename_i c;rw [if_pos c] at h;exact NL bs (k+1) _ h
  ·rfl
theorem TV (n:Nat):List.replicate n false∈YS (List.replicate n false):=by
 rw [fromB_next];simp
theorem iH {l:List Lab} (h:W4 Wf none l=none):l= []:=by
 cases l with
 | nil=>rfl
 | cons a l =>
  obtain ⟨z,hz,_⟩:=VD (fin:=Wf) l a;have:W4 Wf none (a::l)=W4 Wf (some a) l:=rfl
  grind
theorem Tv {x t sp} {st:Int} {r:List Bool} (h:W4 Wf none ((XE r (sp.length+1)).filterMap (Y9 (XA x t sp) 0 (labF t st)))=none): ¬(Xf x t sp 0 (labF t st) (YM r (sp.length+1))).2=0:=fun h0=>by
 have h1:=iH h;have h2:YM r (sp.length+1)∈XE r (sp.length+1):=XQ.2 ⟨_,TV _,rfl⟩
 simp_all [Yy]
theorem OV {x t sp} {st:Int} {r:List Bool} (hr:r.length<=sp.length+1) (h:W4 Wf none (Ke Xg (XA x t sp) (UJ r) (sp.length+1) 0 [labF t st])=none): ¬(Xf x t sp 0 (labF t st) (YM r (sp.length+1))).2=0 :=
 Tv (by rw [HI,VO,Ht r _ hr] at h;exact h)
def Jf (x:Inst) (r:Rte):She×Int:=if 0<=r.start/\r.start<=4096/\r.rests.length<=r.visits.length+1 then Xv x r else (zShe,2)
theorem fH {x t sp} {ch:Nat->List Bool} {k:Nat} {l:List Lab} (hok:TrpOk x t sp) (hs:0<sp.length) (hk:k<=sp.length) (h: ∀L∈l,LabO sp.length k L): ∀L∈X8 Xg [] (Vq (XA x t sp) ch k l),LabO sp.length (k+1) L:=fun L hL=>by
 have h1:=AO Xg _ _ L hL;rw [Zy] at h1;obtain ⟨a,ha,hb⟩:=XU.1 h1
 grind [XA,HG]
theorem DE : ∀(c out:List Lab),(X8 Xg out c).length<=out.length+c.length
 | [],out=>by simp [X8]
 | x::c,out=>by
  rw [X8]
  split
  ·have:=DE c out;simp;omega
  ·have:=DE c (out++ [x]);simp at this ⊢;omega
theorem Hk {x t sp} {r:List Bool} {k:Nat} : ∀l:List Lab,(Vq (XA x t sp) (UJ r) k l).length<=2*l.length
 | []=>by simp [Vq]
 | a::l=>by
  have ih:=Hk (x:=x) (t:=t) (sp:=sp) (r:=r) (k:=k) l;have h1:(Vq (XA x t sp) (UJ r) k (a::l))=(UJ r k).filterMap (XA x t sp k a)++Vq (XA x t sp) (UJ r) k l:=rfl
  grind [UJ]
theorem sS (x:Inst) (r:Rte) (hx:InstOk x) (hl:r.visits.length<=1048576) (hrl:r.rests.length<=1048576) (hty:0<=r.typ/\r.typ<(x.types.length:Int)) (h0:Xj x r.visits=0) :
  PT 232 [.p (Zv x),.p (WG r)] [.p (Fq (Jf x r).1),.p (.int .i64 (Jf x r).2)]:=by
 have hd:=Qv hx;have hsq:=VS h0;have hol:=hd.ord;have htl:=hd.typ;have hvl:=hsq.len hol;have hok:=K4 hx hty hsq;have hsl:(ZM x r.visits).length=r.visits.length:=Yc
 have hs1:0<(ZM x r.visits).length:=by
  rw [hsl];have:=hsq.ne
  grind
 refine Zf [6,13,14] Tryz.func232 rfl Zbx ?_;simp (disch:=omega) only [Tryz.f232,go_sem,seval]
 by_cases hs:0<=r.start/\r.start<=4096
 ·refine Yg (ZcU x r hx hty h0 hs) (Zc ?_);refine cD ?_ ?_<;>intro h1<;>simp (disch:=omega) only [Sh.out h1,go_sem,seval,↓reduceIte]
  ·have e:Jf x r=(zShe,2):=by rw [Jf,if_neg Za]
   rw [e];exact we (by simp (disch:=omega) only [zShe,Zn,go_sem,seval])
  ·have hrs:r.rests.length<=r.visits.length+1:=Za
   have e:Jf x r=Xv x r:=by simp_all [Jf]
   have hbn:= @OV x (ZE x r) (ZM x r.visits) r.start r.rests Za;rw [e,Xv,IL Za];refine (Hi x (ZE x r) r false (ZM x r.visits)).use (Zc ?_)
   generalize hT:ZE x r=t at *
   generalize hS:ZM x r.visits=sp at *
   refine Zp (Weak.fz (o:=4) (by rfl)) ?_;refine Zg [13,14] _ _ _ _ (Zc ?_)
   refine Z4 [13,14] [3,4,6,8,38] (fun q:Nat×List Lab=> [(9,.p (.list false (q.2.map JH))),(39,.p (.int .i64 q.1))]) (fun _=> [Zj x,Xu r,.cells [.p (.bool false),.p (.int .i64 0),.p (.list true []),.p (.int .i64 0),.p (.int .i64 0)],Wb x t r false sp,.dead])
    (fun q=>q.1<=sp.length+1/\Ke Xg (XA x t sp) (UJ r.rests) (sp.length+1) 0 [labF t r.start]=Ke Xg (XA x t sp) (UJ r.rests) (sp.length+1-q.1) q.1 q.2/\(∀L∈q.2,LabO sp.length q.1 L)/\q.2.length<=2^q.1) (fun q=>sp.length+1-q.1) (0,[labF t r.start]) ⟨Zb,Zb,fun L hL=>by grind [HH],Zb⟩ (Weak.mk ?_) ?_
   ·simp (disch:=omega) only [Zj,Xu,Wb,Zr,Zn,Z6,ZX,go_sem,seval]
   ·rintro ⟨k,l⟩ ⟨hk,hit,hlo,hll⟩;simp only at hk hit hlo hll;simp (disch:=omega) only [Zj,Xu,Wb,go_sem,seval];refine cD ?_ ?_<;>intro h2<;>simp (disch:=omega) only [Sh.out h2,go_sem,seval,↓reduceIte]
    ·have hk2:k<=sp.length:=Za
     have hp20:2^k<=2^20:=Yt Za Za;refine (zT x t r false sp hok hs1 k hk2 hrl l false Za hlo).use (Zc ?_)
     have hn:Ke Xg (XA x t sp) (UJ r.rests) (sp.length+1-k) k l=Ke Xg (XA x t sp) (UJ r.rests) (sp.length+1-(k+1)) (k+1) (X8 Xg [] (Vq (XA x t sp) (UJ r.rests) k l)):=by
      have e:sp.length+1-k=(sp.length+1-(k+1))+1:=Za
      rw [e,Ke]
     have hln:=DE (Vq (XA x t sp) (UJ r.rests) k l) [];have hln2:=Hk (x:=x) (t:=t) (sp:=sp) (r:=r.rests) (k:=k) l;exact ⟨(k+1,X8 Xg [] (Vq (XA x t sp) (UJ r.rests) k l)),⟨Za,hit.trans hn,fH hok hs1 hk2 hlo,by grind⟩,Za,Weak.mk (by simp (disch:=omega) only [Z6,ZX,go_sem,seval])⟩
    ·have hkn:k=sp.length+1:=Za
     subst hkn;rw [AE,Ke] at hit;rw [hit] at hbn ⊢;clear hit;refine cD ?_ ?_<;>intro h3<;>simp (disch:=omega) only [Sh.out h3,go_sem,seval,↓reduceIte]
     ·have hl0:l= []:=YC Za;subst hl0;have hbn:=hbn rfl;refine YO (IK 3 rfl rfl (Zc ?_));refine ⟨_,_,Nx (e:=4) rfl Tryz.underlying40 Ze rfl rfl rfl ?_ ?_ ?_,?_⟩
      ·simp
      ·simp;omega
      ·intro q hq;obtain ⟨b,_,rfl⟩:=XQ.1 hq
       rfl
      ·have hpl:(YM r.rests (sp.length+1)).length=sp.length+1:=by simp [YM];omega
       have hpad:r.rests.map eB++(PV.bool false::List.replicate r.visits.length (PV.bool false)).drop (r.rests.map eB).length=(YM r.rests (sp.length+1)).map eB:=by
        rw [YM,Xz,<- KG,List.drop_replicate,Ar,hsl,Z1];rfl
       have hcr:=ZjB x t r false sp hok hs1 hs (YM r.rests (sp.length+1)) false hpl;have hbad:=NL _ _ _ hbn;rw [hbad] at hcr;simp only [Z6,ZX];rw [hpad]
       generalize hRP:YM r.rests (sp.length+1)=rp at *
       refine Zp (Weak.fz (o:=5) (by rfl)) (Zg [] _ _ _ _ (UM ?_));rw [if_pos Za];refine Yg hcr (Zc ?_);have hfm0:W4 Wf none ([]:List Lab)=none:=rfl;rw [hfm0];exact we (by simp (disch:=omega) only [WX,zShe,Zn,go_sem,seval])
     ·cases l with
      | nil=>simp at h3
      | cons l0 l =>
       have e0:Kx ((l0::l).map JH) 0=JH l0:=rfl;have hn0:nth (l0::l) 0=l0:=rfl;simp (disch:=first | omega | (simp only [ZD,ZF,ZH,Z1,Xs,XI]<;>omega)) only [hn0,YV,go_sem,seval];have hfm:W4 Wf none (l0::l)=W4 Wf (some l0) l:=rfl;rw [hfm]
       have hlen:l.length<=2097152:=by
        have hp20:2^(sp.length+1)<=2^21:=Yt Za Za
        grind
       refine Zm [4,12,65,66] (fun q:Nat×Lab=> [(67,.p (.int .i64 q.1))]) (fun q=> [Zj x,Xu r,.cells [.p (.bool false),.p (.int .i64 0),.p (.list true []),.p (.int .i64 0),.p (.int .i64 0)],Wb x t r false sp,.dead,W0 q.2])
        (fun q=>q.1<=l.length/\W4 Wf (some l0) l=W4 Wf (some q.2) (l.drop q.1)) (fun q=>l.length-q.1) (0,l0) Zb (Weak.mk ?_) ?_
       ·simp (disch:=omega) only [Zj,Xu,Wb,W0,go_sem,seval]
       ·rintro ⟨i,m⟩ ⟨hi,hm⟩;simp only at hi hm;simp (disch:=omega) only [Zj,Xu,Wb,W0,go_sem,seval];refine cD ?_ ?_<;>intro h4<;>simp (disch:=omega) only [Sh.out h4,go_sem,seval,↓reduceIte]
        ·have hi2:i<l.length:=Za
         have hdrop:l.drop i=nth l i::l.drop (i+1):=by rw [V4 hi2,Zh hi2]
         rw [hdrop,W4] at hm;refine ZO ?_ ?_<;>intro h5
         ·rw [if_pos (show Wf (nth l i)<Wf m from h5)] at hm;exact ⟨(i+1,nth l i),⟨Za,hm⟩,Za,wk⟩
         ·rw [if_neg (show ¬Wf (nth l i)<Wf m from h5)] at hm;exact ⟨(i+1,m),⟨Za,hm⟩,Za,wk⟩
        ·have hil:i=l.length:=Za
         subst hil;rw [Qc,W4] at hm;rw [hm];exact we
 ·have e:Jf x r=(zShe,2):=by rw [Jf,if_neg (fun h=>hs ⟨h.1,h.2.1⟩)]
  rw [e];refine Yg (sX x r hty htl hvl hs) ?_;simp (disch:=omega) only [qO,go_sem,seval];exact we (by simp (disch:=omega) only [zShe,Zn,go_sem,seval])
end Go.Proofs.YtenjikkmmibffaaGreatDoor.K
namespace Go.AM
open Go.RowKit
theorem kD (k v:Int) (l:List (Int×Int)): ∃l',kC (.int .i64 k) (.int .i64 v) (l.map eII)=l'.map eII/\(∀q,KM l' q=if q=k then v else KM l q)/\l'.length<=l.length+1:=by
 unfold kC;rw [Dw]
 cases hm:HQ l k with
 | none =>
  refine ⟨l++ [(k,v)],by simp [eII],fun q=> ?_,Zb⟩
  have e1:HQ (l++ [(k,v)]) k=some l.length:=by
   grind [HQ]
  by_cases hq:q=k
  ·grind [KM]
  ·rw [if_neg hq];unfold KM
   have e3:HQ (l++ [(k,v)]) q=HQ l q:=by
    grind [HQ]
   rw [e3]
   cases hc:HQ l q with
   | none=>rfl
   | some i =>
    unfold HQ at hc
    grind [Uy]
 | some i =>
  refine ⟨l.set i (k,v),by simp_all [eII],?_,Zb⟩;have hH:oat [.map (l.map eII)] 0= .map (l.map eII):=rfl;have:=Pu (H:= [.map (l.map eII)]) (o:=0) (l:=l) (k:=k) (i:=i) (v:=v) (K:=fun _ _=> ∀q,KM (l.set i (k,v)) q=if q=k then v else KM l q) hH hm fun h=>h;unfold Ab at this;obtain ⟨u,q1,_⟩:=FO hm
  simp_all [Bb]
theorem kE {P:Program} {H:List Obj} {t:TypeId} {o:Nat} {l:List (Int×Int)} {k v:Int} {K:V->List Obj->Prop} (hT:jX P t=some (.int .i64,some (.int .i64 0))) (hH:oat H o= .map (l.map eII))
  (h: ∀l':List (Int×Int),(∀q,KM l' q=if q=k then v else KM l q)->K .junk (H.set o (.map (l'.map eII)))):Bb (DX P H t (.mp o) (.p (.int .i64 k)) (.p (.int .i64 v))) K:=by
 obtain ⟨kt,et,h1,h2,h3⟩:=Ni hT;obtain ⟨l',e,hg,_⟩:=kD k v l
 grind [DX,HK,Bb]
end Go.AM
namespace Go.Proofs.YtenjikkmmibffaaGreatDoor.K
open Go Go.AM Go.Proofs
set_option maxRecDepth 8000
set_option maxHeartbeats 8000000
def Fp (l:List Vis) (k:Nat) (q:Int):Int:=((l.take k).countP fun v=>decide (v.order=q):Nat)
theorem TG {l:List Vis} {k:Nat} (h:k<l.length) (q:Int):Fp l (k+1) q=if q=(nth l k).order then Fp l k q+1 else Fp l k q:=by
 unfold Fp;rw [Yb h,List.countP_append,Zh h]
 grind
theorem fY {l:List Vis} {k:Nat} (h:k<=l.length) (q:Int):0<=Fp l k q/\Fp l k q<=k:=by
 grind [Fp,Xs]
theorem O6 {l:List Vis} {k:Nat} :Ux l k=decide (Fp l k (nth l k).order=0):=by
 unfold Ux Fp;rw [Wq];simp
theorem Bx (a b:Int):PC 260 [.p (.int .i64 a),.p (.int .i64 b)] (.bool (Xq a b)):=by
 refine Zd Tryz.func260 rfl ZbX ?_;simp (disch:=omega) only [Tryz.f260,go_sem,seval];refine gT ?_ ?_<;>intro h<;>simp (disch:=omega) only [Sh.out h,go_sem,seval,↓reduceIte]
 ·simp [Xq,h]
 simp_all [Xq]
theorem lB (x:Inst) (r:Rte) (s:She) (hty:0<=r.typ/\r.typ<(x.types.length:Int)) (ho:x.orders.length<=1048576) (ht:x.types.length<=1048576) (hl:r.visits.length<=1048576) (hv:Inr x r.visits)
  (hc:0<=(ZE x r).fixed/\(ZE x r).fixed<=100000/\0<=(ZE x r).perMile/\(ZE x r).perMile<=100/\0<=(ZE x r).perTick/\(ZE x r).perTick<=100) (ho2:0<=(ZE x r).opn/\(ZE x r).opn<=4096)
  (hf: -4096<=s.fin/\s.fin<=8192) (hm:0<=s.miles/\s.miles<=1000000) :
  PC 233 [.p (Zv x),.p (WG r),.p (Fq s)] (Ek (DK x r s)):=by
 have hti:r.typ.toNat<x.types.length:=Za
 have hT:jX Tryz.prog 339=some (.int .i64,some (.int .i64 0)):=Ze
 unfold DK;have htd:nth x.types r.typ.toNat=ZE x r:=rfl
 generalize ZE x r=t at *
 have e1: ¬r.typ<0:=Za
 have e2: ¬(x.types.length:Int)<=r.typ:=Za
 have p1:0<=t.perMile*s.miles/\t.perMile*s.miles<=100*1000000:=⟨UC Za Za,VJ Za Za Za Za⟩
 have hW: -8192<=s.fin-t.opn/\s.fin-t.opn<=8192:=Za
 have p2: -819200<=t.perTick*(s.fin-t.opn)/\t.perTick*(s.fin-t.opn)<=819200:=by
  generalize s.fin-t.opn=w at hW;have a1:=Bu hW.2 (show 0<=t.perTick by omega);have a2:=Bu hW.1 (show 0<=t.perTick by omega);omega
 have p3: -128<=(s.fin-t.opn).tdiv 64/\(s.fin-t.opn).tdiv 64<=128:=by
  grind
 have p4:0<=(s.fin-t.opn).tdiv 64*(s.fin-t.opn).tdiv 64/\(s.fin-t.opn).tdiv 64*(s.fin-t.opn).tdiv 64<=16384:=by
  generalize (s.fin-t.opn).tdiv 64=q at p3;refine ⟨?_,?_⟩
  ·rcases AB 0 q with h | h
   ·exact UC h h
   ·exact Int.mul_nonneg_of_nonpos_of_nonpos h h
  ·rcases AB 0 q with h | h
   ·have:=VJ p3.2 p3.2 h Za;omega
   ·have h2:0<= -q:=Za
    have:=VJ (show-q<=128 by omega) (show-q<=128 by omega) h2 Za
    grind
 refine Zd Tryz.func233 rfl Zby ?_;simp (disch:=omega) only [Tryz.f233,e1,e2,htd,go_sem,seval]
 refine Zm [3,4,6,10,11,59,60] (fun q:Nat×List (Int×Int)=> [(61,.p (.int .i64 q.1))]) (fun q=> [Zj x,Xu r,.cells [.p (.bool s.rest),.p (.int .i64 s.dep),.p (.list s.times_c (s.times.map eTim)),.p (.int .i64 s.fin),.p (.int .i64 s.miles)],CY 0 0 0 0,Yf t,CY (t.fixed+t.perMile*s.miles+t.perTick*(s.fin-t.opn)) (chgF x r.visits r.typ q.1).1 (chgF x r.visits r.typ q.1).2 ((s.fin-t.opn).tdiv 64*(s.fin-t.opn).tdiv 64),.map (q.2.map eII)])
  (fun q=>q.1<=r.visits.length/\ ∀n,KM q.2 n=Fp r.visits q.1 n) (fun q=>r.visits.length-q.1) (0,[]) ⟨Zb,fun n=>rfl⟩ (Weak.mk ?_) ?_
 ·simp (disch:=omega) only [Zj,Xu,Yf,CY,chgF,go_sem,seval]
 ·rintro ⟨k,m⟩ ⟨hk,hmg⟩;simp only at hk hmg;have hch:=B1 (x:=x) (l:=r.visits) (t:=r.typ) k;simp (disch:=omega) only [Zj,Xu,Yf,CY,go_sem,seval];refine cD ?_ ?_<;>intro h1<;>simp (disch:=omega) only [Sh.out h1,go_sem,seval,↓reduceIte]
  ·have hk2:k<r.visits.length:=Za
   obtain ⟨v1,v2⟩:=hv _ (Zt hk2)
   have e3: ¬(nth r.visits k).order<0:=Za
   have e4: ¬(x.orders.length:Int)<=(nth r.visits k).order:=Za
   have v3:(nth r.visits k).order.toNat<x.orders.length:=Za
   have hcs:=TG hk2;have hcr:=fY hk (nth r.visits k).order;have hfi:=O6 (l:=r.visits) (k:=k);have hch2:chgF x r.visits r.typ (k+1)=_:=chgF.eq_2 x r.visits r.typ k;refine Nf hT rfl ?_;rw [hmg];refine Zc ?_;refine kE hT rfl fun m' hm'=> ?_
   have hmg': ∀n,KM m' n=Fp r.visits (k+1) n:=fun n=>by grind
   simp (disch:=omega) only [e3,e4,Z6,ZX,go_sem,seval];refine Nf hT rfl ?_;rw [hm',if_pos rfl];refine Zc ?_;refine ZO ?_ ?_<;>intro h2
   ·have h3: ¬Ux r.visits k=true:=by grind
    rw [if_neg h3] at hch2;exact ⟨(k+1,m'),⟨Za,hmg'⟩,Za,Weak.mk (by simp (disch:=omega) only [hch2,go_sem,seval])⟩
   ·have h3:Ux r.visits k=true:=by grind
    rw [if_pos h3] at hch2;refine (Bx (nth x.orders (nth r.visits k).order.toNat).now r.typ).use (Zc ?_);refine cD ?_ ?_<;>intro h4<;>simp (disch:=omega) only [Sh.out h4,go_sem,seval,↓reduceIte]
    ·rw [if_pos h4] at hch2;refine (Bx (nth x.orders (nth r.visits k).order.toNat).last r.typ).use (Zc ?_);refine ZO ?_ ?_<;>intro h5
     ·rw [if_pos h5] at hch2;exact ⟨(k+1,m'),⟨Za,hmg'⟩,Za,Weak.mk (by simp (disch:=omega) only [hch2,go_sem,seval])⟩
     ·rw [if_neg (by rw [h5];simp)] at hch2;exact ⟨(k+1,m'),⟨Za,hmg'⟩,Za,Weak.mk (by simp (disch:=omega) only [hch2,UE,go_sem,seval])⟩
    ·rw [if_neg (by rw [h4];simp)] at hch2;refine (Bx (nth x.orders (nth r.visits k).order.toNat).last r.typ).use (Zc ?_);refine ZO ?_ ?_<;>intro h5
     ·rw [if_pos h5] at hch2;exact ⟨(k+1,m'),⟨Za,hmg'⟩,Za,Weak.mk (by simp (disch:=omega) only [hch2,UE,go_sem,seval])⟩
     ·rw [if_neg (by rw [h5];simp)] at hch2;exact ⟨(k+1,m'),⟨Za,hmg'⟩,Za,Weak.mk (by simp (disch:=omega) only [hch2,UE,go_sem,seval])⟩
  grind
end Go.Proofs.YtenjikkmmibffaaGreatDoor.K
namespace Go.Proofs.YtenjikkmmibffaaGreatDoor.K
open Go Go.AM Go.Proofs
set_option maxRecDepth 8000
set_option maxHeartbeats 8000000
@[go_sem] theorem Zet {f:FuncId} :(PV.fn f).cells= [.fn f]:=Zl rfl rfl
def Zc9 : AM.Obj:= .cells [.p (.bool false),.p (.int .i64 0),.p (.list true []),.p (.int .i64 0),.p (.int .i64 0)]
theorem O9 (x:Inst) (r:Rte) (hx:InstOk x) (hl:r.visits.length<=1048576) (hrl:r.rests.length<=1048576):ACalls Tryz.prog 218 [.p (Zv x),.p (WG r)] [] fun y H'=>y=B5 x r/\H'= []:=by
 have hld:=Qv hx;have htl:=hld.typ;have hol:=hld.ord;have chk:=lC x r hx hl
 have htb:x.types.length<=6:=by have:=hx.types.1;simp only [rng,Zq] at this;omega
 refine Zf [] Tryz.func218 rfl Zbm ?_;simp (disch:=omega) only [Tryz.f218,go_sem,seval];refine gF ?_ ?_<;>intro h1<;>simp (disch:=omega) only [Sh.out h1,go_sem,seval,↓reduceIte]
 ·have e:XX x r=2:=by rw [XX,if_pos Za]
  rw [YE (e:=2) (by rw [Xw,e];rfl) Za];exact we (by simp (disch:=omega) only [zShe,zSco,Zn,go_sem,seval])
 ·refine cD ?_ ?_<;>intro h2<;>simp (disch:=omega) only [Sh.out h2,go_sem,seval,↓reduceIte]
  ·have e:XX x r=2:=by simp_all [XX]
   rw [YE (e:=2) (by rw [Xw,e];rfl) Za];exact we (by simp (disch:=omega) only [zShe,zSco,Zn,go_sem,seval])
  ·have hty:0<=r.typ/\r.typ<(x.types.length:Int):=Za
   have hti:r.typ.toNat<x.types.length:=Za
   have hnum:=WS hx hti;have htyp:nth x.types r.typ.toNat=ZE x r:=rfl;rw [htyp] at hnum
   have hsk: ∀o∈x.orders,o.skills<9223372036854775808:=fun o hm=>by
    obtain ⟨i,hi,rfl⟩:=ZT.1 hm;have:=(hx.orders.2 i hi).skills
    grind [Zh]
   refine Zm [2,3,4,5,25,26] (fun k:Nat=> [(27,.p (.int .i64 k))]) (fun _=> [Zj x,Xu r,Zc9,CY 0 0 0 0,.elems 1 [.fn 229,.fn 230,.fn 231]])
    (fun k=>k<=3/\(0<k->Xj x r.visits=0)/\(1<k-> ¬(r.visits.any fun v=> !Yj (ZE x r) (nth x.orders v.order.toNat).skills)=true)/\(2<k->Qe x (ZE x r).cap r.visits=true)) (fun k=>3-k) 0 ⟨Za,Za,Za,Za⟩ (Weak.mk ?_) ?_
   ·simp (disch:=omega) only [Zj,Xu,CY,Zc9,go_sem,seval]
   ·rintro k ⟨hk,k1,k2,k3⟩;simp (disch:=omega) only [Zj,Xu,CY,Zc9,go_sem,seval];refine cD ?_ ?_<;>intro h3<;>simp (disch:=omega) only [Sh.out h3,go_sem,seval,↓reduceIte]
    ·by_cases hk0:k=0
     ·subst hk0;have he:Kx [PV.fn 229,PV.fn 230,PV.fn 231] 0=PV.fn 229:=rfl;simp (disch:=first | omega | (simp only [ZD,ZF,ZH,Z1,Xs,XI]<;>omega)) only [he,go_sem,seval,↓reduceIte];refine (chk).use (Zc ?_);refine ZO ?_ ?_<;>intro h4
      ·have e:XX x r=Xj x r.visits:=by simp_all [XX]
       rw [YE (e:=Xj x r.visits) (by simp_all [Xw]) h4];exact we (by simp (disch:=omega) only [zShe,zSco,Zn,go_sem,seval])
      ·exact ⟨1,⟨Za,fun _=>Za,Za,Za⟩,Za,wk⟩
     ·have h0:=k1 Za;have hsq:=VS h0
      have hr0:XX x r=if (r.visits.any fun v=> !Yj (ZE x r) (nth x.orders v.order.toNat).skills)=true then 18 else if Qe x (ZE x r).cap r.visits=false then 17 else if ¬(0<=r.start/\r.start<=4096/\r.rests.length<=r.visits.length+1) then 2 else 0:=by
       rw [XX,if_neg (fun h=>h hty),if_neg Za]
      by_cases hk1:k=1
      ·subst hk1;have he:Kx [PV.fn 229,PV.fn 230,PV.fn 231] 1=PV.fn 230:=rfl;simp (disch:=first | omega | (simp only [ZD,ZF,ZH,Z1,Xs,XI]<;>omega)) only [he,go_sem,seval,↓reduceIte];refine (lA x r hty (fun v hv=>by have:=hsq.inr v hv;grind [M6]) hl htl Za Za hsk).use (Zc ?_)
       by_cases h5:(r.visits.any fun v=> !Yj (ZE x r) (nth x.orders v.order.toNat).skills)=true
       ·rw [if_pos h5] at hr0 ⊢;rw [YE (e:=18) (by rw [Xw,hr0];rfl) Za];refine Zc ?_;exact we (by simp (disch:=omega) only [zShe,zSco,Zn,go_sem,seval])
       ·rw [if_neg h5];refine Zc ?_;exact ⟨2,⟨Za,fun _=>h0,fun _=>h5,Za⟩,Za,wk⟩
      ·have hk2:k=2:=Za
       subst hk2;have he:Kx [PV.fn 229,PV.fn 230,PV.fn 231] 2=PV.fn 231:=rfl;simp (disch:=first | omega | (simp only [ZD,ZF,ZH,Z1,Xs,XI]<;>omega)) only [he,go_sem,seval,↓reduceIte];refine (kX x r hx hl hty h0).use (Zc ?_);rw [if_neg (k2 Za)] at hr0
       cases h5:Qe x (ZE x r).cap r.visits with
       | false =>
        rw [if_pos h5] at hr0;rw [YE (e:=17) (by rw [Xw,hr0];rfl) Za];simp only [YU,Yi];refine Zc ?_;exact we (by simp (disch:=omega) only [zShe,zSco,Zn,go_sem,seval])
       | true =>
        simp only [if_true];refine Zc ?_;exact ⟨3,⟨Za,fun _=>h0,fun _=>k2 Za,fun _=>Zb⟩,Za,wk⟩
    ·have hk3:k=3:=Za
     subst hk3;have h0:=k1 Za;have hsq:=VS h0
     have hr0:XX x r=if ¬(0<=r.start/\r.start<=4096/\r.rests.length<=r.visits.length+1) then 2 else 0:=by
      rw [XX,if_neg (fun h=>h hty),if_neg Za,if_neg (k2 Za),if_neg (by grind)]
     have cb:=sS x r hx hl hrl hty h0;have hok:=K4 hx hty hsq
     have hbr:Jf x r=Xv x r->(Xv x r).2=0->(0<=r.start/\r.start<=4096/\r.rests.length<=r.visits.length+1)->(0<=(Xv x r).1.fin/\(Xv x r).1.fin<=8192)/\(0<=(Xv x r).1.miles/\(Xv x r).1.miles<=210000):=fun _ hz hs =>
      Fk hok ⟨hs.1,hs.2.1⟩ (by grind [Yc]) hz
     by_cases h6:0<=r.start/\r.start<=4096/\r.rests.length<=r.visits.length+1
     ·have e:XX x r=0:=Za
      have ee:Xw x r=(Xv x r).2:=by rw [Xw,if_pos e]
      have eb:Jf x r=Xv x r:=by rw [Jf,if_pos h6]
      have hbr:=fun hz=>hbr eb hz h6;rw [eb] at cb
      have es:X7 x r=if (Xv x r).2=0 then (Xv x r).1 else zShe:=by rw [X7,ee]
      have ep:We x r=if (Xv x r).2=0 then DK x r (Xv x r).1 else zSco:=by rw [We,ee]
      unfold B5;rw [ee,es,ep];clear ee es ep eb
      generalize Xv x r=q at *
      obtain ⟨sh,eb⟩:=q;simp only at cb hbr ⊢;refine Yg cb (Zc ?_);refine cD ?_ ?_<;>intro h7<;>simp (disch:=omega) only [Sh.out h7,go_sem,seval,↓reduceIte]
      ·exact we (by simp (disch:=omega) only [zShe,zSco,Zn,go_sem,seval])
      ·have h7':eb=0:=Za
       try rw [if_pos h7',if_pos h7']
       subst h7';obtain ⟨g1,g2⟩:=hbr rfl;refine ZC 5 mixed Ze Ze (Zc ?_);refine Zo (lB x r sh hty Za htl hl hsq.inr hnum.2.2.2.1 Za Za Za) (Zc ?_);exact we
     ·have e:XX x r=2:=Za
      have eb:Jf x r=(zShe,2):=by rw [Jf,if_neg h6]
      rw [YE (e:=2) (by rw [Xw,e];rfl) Za];rw [eb] at cb;refine Yg cb (Zc ?_);exact we (by simp (disch:=omega) only [zShe,zSco,Zn,go_sem,seval])
theorem Ui {x:Inst} {r:Rte} (h:Xw x r=0):XX x r=0:=by
 grind [Xw]
theorem U3 {x:Inst} {r:Rte} (h:XX x r=0):(0<=r.typ/\r.typ<(x.types.length:Int))/\Xj x r.visits=0/\(0<=r.start/\r.start<=4096/\r.rests.length<=r.visits.length+1):=by
 unfold XX at h;omega
theorem MM {x:Inst} {r:Rte} (hx:InstOk x) (h:Xw x r=0):(0<=(X7 x r).fin/\(X7 x r).fin<=8192)/\(0<=(X7 x r).miles/\(X7 x r).miles<=210000):=by
 obtain ⟨hty,h0,hs⟩:=U3 (Ui h)
 have e:X7 x r=(Xv x r).1:=by rw [X7,if_pos h]
 have ee:(Xv x r).2=0:=by rw [Xw,if_pos (Ui h)] at h;exact h
 rw [e];exact Fk (K4 hx hty (VS h0)) ⟨hs.1,hs.2.1⟩ (by grind [Yc]) ee
theorem Hr {x:Inst} {r:Rte} (hx:InstOk x) (hl:r.visits.length<=1048576) (h:Xw x r=0):scoR 1073741824 (We x r):=by
 have hg:=MM hx h;obtain ⟨hty,_,_⟩:=U3 (Ui h);have hnum:=WS hx (show r.typ.toNat<x.types.length by omega);have htyp:nth x.types r.typ.toNat=ZE x r:=rfl;rw [htyp] at hnum
 have e:(Xv x r).1=X7 x r:=by rw [X7,if_pos h]
 have hch:=B1 (x:=x) (l:=r.visits) (t:=r.typ) r.visits.length;rw [We,if_pos h,e];unfold DK scoR
 generalize X7 x r=s at *
 generalize ZE x r=t at *
 have p1:0<=t.perMile*s.miles/\t.perMile*s.miles<=100*210000:=⟨UC Za Za,VJ Za Za Za Za⟩
 have hW: -8192<=s.fin-t.opn/\s.fin-t.opn<=8192:=Za
 have p2: -819200<=t.perTick*(s.fin-t.opn)/\t.perTick*(s.fin-t.opn)<=819200:=by
  generalize s.fin-t.opn=w at hW;have a1:=Bu hW.2 (show 0<=t.perTick by omega);have a2:=Bu hW.1 (show 0<=t.perTick by omega);omega
 have p3: -128<=(s.fin-t.opn).tdiv 64/\(s.fin-t.opn).tdiv 64<=128:=by
  grind
 have p4:0<=(s.fin-t.opn).tdiv 64*(s.fin-t.opn).tdiv 64/\(s.fin-t.opn).tdiv 64*(s.fin-t.opn).tdiv 64<=16384:=by
  generalize (s.fin-t.opn).tdiv 64=q at p3;refine ⟨?_,?_⟩
  ·rcases AB 0 q with h | h
   ·exact UC h h
   ·exact Int.mul_nonneg_of_nonpos_of_nonpos h h
  ·rcases AB 0 q with h | h
   ·have:=VJ p3.2 p3.2 h Za;omega
   ·have h2:0<= -q:=Za
    have:=VJ (show-q<=128 by omega) (show-q<=128 by omega) h2 Za
    grind
 grind
def YH (x:Inst) (r:Rte):Int×Int:=if Xw x r=0 then YB (We x r) else (0,Xw x r)
theorem nL (s:Sco):0<=(YB s).1/\(YB s).1<=36028797018963968:=by
 grind [YB]
theorem NE (x:Inst) (r:Rte):0<=(YH x r).1/\(YH x r).1<=36028797018963968:=by
 unfold YH
 split
 ·exact nL _
 ·simp
theorem bQ (x:Inst) (r:Rte) (hx:InstOk x) (hb:Zc5 r):PT 189 [.p (Zv x),.p (WG r)] [.p (.int .i64 (YH x r).1),.p (.int .i64 (YH x r).2)]:=by
 have ce:=O9 x r hx hb.1 hb.2;refine Zf [] Tryz.func189 rfl Za5 ?_;simp (disch:=omega) only [Tryz.f189,go_sem,seval];unfold B5 at ce;refine Oh ce (Zc ?_);refine cD ?_ ?_<;>intro h1<;>simp (disch:=omega) only [Sh.out h1,go_sem,seval,↓reduceIte]
 ·rw [YH,if_neg h1];exact we
 ·have h0:Xw x r=0:=Za
  rw [YH,if_pos h0];refine Wv (HT (We x r) (AQ Za (Hr hx hb.1 h0))) (Zc ?_);exact we
theorem NJ (x:Inst) (r:Rte) (hx:InstOk x) (hb:Zc5 r):PT 128 [.p (Zv x),.p (WG r)] [.p (.int .i64 (YH x r).1),.p (.int .i64 (YH x r).2)]:=by
 have ce:=B6 x r hx hb.1 hb.2;refine Zf [] Tryz.func128 rfl Zar ?_;simp (disch:=omega) only [Tryz.f128,go_sem,seval];unfold B5 at ce;refine Oh ce (Zc ?_);refine cD ?_ ?_<;>intro h1<;>simp (disch:=omega) only [Sh.out h1,go_sem,seval,↓reduceIte]
 ·rw [YH,if_neg h1];exact we
 ·have h0:Xw x r=0:=Za
  rw [YH,if_pos h0];refine Wv (GK (We x r) (AQ Za (Hr hx hb.1 h0))) (Zc ?_);exact we
end Go.Proofs.YtenjikkmmibffaaGreatDoor.K
