/- Declarations that the closing texts need, part 12: joined by tools/slim.py. -/
import Derived.Test.YtenjikkmmibffaaGreatDoorY11
set_option linter.unusedVariables false
set_option linter.unusedSimpArgs false
namespace Go.Proofs.YtenjikkmmibffaaGreatDoor.K
open Go Go.AM Go.Proofs
def EQ (x:Inst) (l:List Vis) (n i:Nat):Bool:=(l.take n).foldl (fun on v=>if v.order=(i:Int) then !v.drp else on) (decide ((nth x.orders i).pick.place<0))
theorem lE {x:Inst} {l:List Vis} {i:Nat} :EQ x l 0 i=decide ((nth x.orders i).pick.place<0):=by simp [EQ]
theorem F3 {x:Inst} {l:List Vis} {n i:Nat} (h:n<l.length):EQ x l (n+1) i=if (nth l n).order=(i:Int) then !(nth l n).drp else EQ x l n i:=by
 grind [EQ,X0,Zh]
structure SqOk (x:Inst) (l:List Vis):Prop where
 ne:l≠ []
 inr:Inr x l
 nd:l.Nodup
 pair: ∀v∈l,pairB x.orders l v=true
theorem VO {x:Inst} {l:List Vis} (h:Xg x l=0):SqOk x l:=by
 unfold Xg at h
 split at h
 ·simp at h
 ·rename_i h1
  split at h
  ·simp at h
  ·split at h
   ·simp at h
   ·rename_i h3
    split at h
    ·simp at h
    ·rename_i h4;refine ⟨fun e=>h1 (.inl (by simp [e])),fun v hv=> ?_,BR.1 (by grind),fun v hv=> ?_⟩
     ·grind [W2]
     grind
structure OwnV (x:Inst) (l:List Vis) (i:Nat):Prop where
 pick:0<=(nth x.orders i).pick.place->(⟨i,false⟩:Vis)∈l
 drp:0<=(nth x.orders i).drp.place->(⟨i,true⟩:Vis)∈l
 both:0<=(nth x.orders i).pick.place->0<=(nth x.orders i).drp.place->vIx l ⟨i,false⟩<vIx l ⟨i,true⟩
 isP:(⟨i,false⟩:Vis)∈l->0<=(nth x.orders i).pick.place
 isD:(⟨i,true⟩:Vis)∈l->0<=(nth x.orders i).drp.place
theorem SqOk.own {x:Inst} {l:List Vis} (h:SqOk x l) {i:Nat} (hi: ∃v∈l,v.order=(i:Int)):OwnV x l i:=by
 obtain ⟨v0,hv0,ho⟩:=hi
 have key: ∀v∈l,v.order=(i:Int)->v∈ZX x.orders i/\QZ l (-1) (ZX x.orders i)=true:=fun v hv hvo=>by
  have:=h.pair v hv;simp only [pairB,hvo,XY,ZH,Zs] at this;exact ⟨Wx.1 this.1,this.2⟩
 obtain ⟨_,hasc⟩:=key v0 hv0 ho;have mem: ∀b:Bool,(⟨i,b⟩:Vis)∈l->(⟨i,b⟩:Vis)∈ZX x.orders i:=fun b hb=>(key _ hb rfl).1
 have hp:(⟨i,false⟩:Vis)∈ZX x.orders i->0<=(nth x.orders i).pick.place:=fun hm=>by
  unfold ZX at hm
  grind
 have hd:(⟨i,true⟩:Vis)∈ZX x.orders i->0<=(nth x.orders i).drp.place:=fun hm=>by
  unfold ZX at hm
  grind
 have m1: ∀v,-1<vIx l v->v∈l:=fun v hv=>Wx.1 Za;unfold ZX at hasc
 by_cases c1:0<=(nth x.orders i).pick.place<;>by_cases c2:0<=(nth x.orders i).drp.place
 ·simp only [c1,c2,if_true,ZL,Zz,QZ,JY,ZH,Zs] at hasc;exact ⟨fun _=>m1 _ hasc.1,fun _=>m1 _ Za,fun _ _=>hasc.2,fun _=>c1,fun _=>c2⟩
 ·simp only [c1,c2,if_true,YE,Y8,QZ,JY,Zs] at hasc;exact ⟨fun _=>m1 _ hasc,fun h=>absurd h c2,fun _ h=>absurd h c2,fun _=>c1,fun hm=>hd (mem _ hm)⟩
 ·simp only [c1,c2,if_true,YE,Zz,QZ,JY,Zs] at hasc;exact ⟨fun h=>absurd h c1,fun _=>m1 _ hasc,fun h=>absurd h c1,fun hm=>hp (mem _ hm),fun _=>c2⟩
 ·exact ⟨fun h=>absurd h c1,fun h=>absurd h c2,fun h=>absurd h c1,fun hm=>hp (mem _ hm),fun hm=>hd (mem _ hm)⟩
theorem JD {l:List Vis} (hn:l.Nodup) {v:Vis} {n:Nat} :v∈l.take n↔0<=vIx l v/\vIx l v<(n:Int):=by
 constructor
 ·intro h;obtain ⟨j,h1,h2,rfl⟩:=Qy h
  grind [Jh]
 ·intro ⟨h1,h2⟩;obtain ⟨h3,h4⟩:=E1 h1
  grind [KM]
theorem lC {x:Inst} {l:List Vis} (h:SqOk x l) (i:Nat): ∀n,n<=l.length->EQ x l n i=if (⟨i,true⟩:Vis)∈l.take n then false else if (⟨i,false⟩:Vis)∈l.take n then true else decide ((nth x.orders i).pick.place<0)
 | 0,_=>by simp [EQ]
 | n+1,hn=>by
  have hk:n<l.length:=Za
  have hat:=Jh h.nd hk;rw [F3 hk,lC h i n Za]
  by_cases c:(nth l n).order=(i:Int)
  ·rw [if_pos c];have ho:=h.own (i:=i) ⟨nth l n,Zt hk,c⟩
   cases hd:(nth l n).drp with
   | true =>
    have hv:nth l n=⟨i,true⟩:=by rw [<- c,<- hd]
    rw [hv] at hat;have:(⟨i,true⟩:Vis)∈l.take (n+1):=(JD h.nd).2 Za;rw [if_pos this];rfl
   | false =>
    have hv:nth l n=⟨i,false⟩:=by rw [<- c,<- hd]
    rw [hv] at hat;have h1:(⟨i,false⟩:Vis)∈l.take (n+1):=(JD h.nd).2 Za
    have h2: ¬(⟨i,true⟩:Vis)∈l.take (n+1):=fun hm=>by
     have h3:=J4 hm;have h4:=(JD h.nd).1 hm;have h5:=ho.both (ho.isP (J4 h1)) (ho.isD h3);omega
    rw [if_neg h2,if_pos h1];rfl
  ·rw [if_neg c]
   have e: ∀b:Bool,((⟨i,b⟩:Vis)∈l.take (n+1))=((⟨i,b⟩:Vis)∈l.take n):=fun b=>by
    rw [X0 hk,Xi,<- Zh hk];refine propext ⟨fun hm=>hm.resolve_right fun hm=> ?_,.inl⟩;simp at hm;exact c (by rw [<- hm])
   simp only [e]
theorem Zc3 {x:Inst} {l:List Vis} (h:SqOk x l) {k i:Nat} (hk:k<l.length) (hi:(nth l k).order=(i:Int)):EQ x l k i=(nth l k).drp:=by
 have hat:=Jh h.nd hk;have ho:=h.own (i:=i) ⟨nth l k,Zt hk,hi⟩;have hm:=Zt hk;rw [lC h i k Za]
 cases hd:(nth l k).drp with
 | true =>
  have hv:nth l k=⟨i,true⟩:=by rw [<- hi,<- hd]
  rw [hv] at hat hm
  have h1: ¬(⟨i,true⟩:Vis)∈l.take k:=fun hm=>by have:=(JD h.nd).1 hm;omega
  rw [if_neg h1]
  by_cases c:0<=(nth x.orders i).pick.place
  ·have h2:=ho.both c (ho.isD hm);have h3:(⟨i,false⟩:Vis)∈l.take k:=(JD h.nd).2 ⟨Wx.2 (ho.pick c),Za⟩
   grind
  grind
 | false =>
  have hv:nth l k=⟨i,false⟩:=by rw [<- hi,<- hd]
  rw [hv] at hat hm;have hp:=ho.isP hm
  have h1: ¬(⟨i,false⟩:Vis)∈l.take k:=fun hm=>by have:=(JD h.nd).1 hm;omega
  grind
theorem uU {f g:Nat->Int} {i:Nat} (h: ∀q,q≠i->f q=g q): ∀n,i<n->((List.range n).map f).sum=((List.range n).map g).sum+(f i-g i):=by
 have same: ∀n,n<=i->((List.range n).map f).sum=((List.range n).map g).sum:=fun n hn=>by
  grind [W0]
 intro n
 induction n with
 | zero=>omega
 | succ n ih =>
  intro hi;simp only [Ye,Xs,Zq,Zn,List.sum_append,List.sum_cons,List.sum_nil]
  grind
theorem S4 {f:Nat->Int} {b:Int} (hb:0<=b) (h: ∀q,0<=f q/\f q<=b): ∀n:Nat,0<=((List.range n).map f).sum/\((List.range n).map f).sum<=b*n
 | 0=>Zb
 | n+1=>by
  have ih:=S4 hb h n
  grind [Ye]
theorem Kf {p:Nat->Bool} {f:Nat->Int} : ∀l:List Nat,((l.filter p).map f).sum=(l.map fun i=>if p i=true then f i else 0).sum
 | []=>rfl
 | a::l=>by
  rw [CF,Zq,List.sum_cons]
  by_cases h:p a=true
  ·rw [if_pos h,Zq,List.sum_cons,Kf l,if_pos h]
  ·rw [if_neg h,Kf l,if_neg h];omega
def DX (x:Inst) (l:List Vis) (n j:Nat):Int:=((List.range x.orders.length).map fun i=>if (EQ x l n i&&hasO l i)=true then nth (nth x.orders i).load j else 0).sum
theorem Ij {x:Inst} {l:List Vis} (h:SqOk x l) {k j:Nat} (hk:k<l.length):DX x l (k+1) j=if (nth l k).drp=true then DX x l k j-nth (nth x.orders (nth l k).order.toNat).load j else DX x l k j+nth (nth x.orders (nth l k).order.toNat).load j:=by
 obtain ⟨v1,v2⟩:=h.inr _ (Zt hk);obtain ⟨i,hi⟩: ∃i:Nat,(nth l k).order=(i:Int):=⟨(nth l k).order.toNat,Za⟩;have hh:hasO l (i:Int)=true:=W6.2 ⟨_,Zt hk,hi⟩;have h1:=Zc3 h hk hi
 have h2:EQ x l (k+1) i= !(nth l k).drp:=by simp_all [F3]
 unfold DX
 rw [uU (f:=fun i=>if (EQ x l (k+1) i&&hasO l i)=true then nth (nth x.orders i).load j else 0) (g:=fun i=>if (EQ x l k i&&hasO l i)=true then nth (nth x.orders i).load j else 0) (i:=i) (fun q hq=>by
  have:EQ x l (k+1) q=EQ x l k q:=by rw [F3 hk,if_neg Za]
  grind) x.orders.length Za]
 grind
def Wf (x:Inst) (l:List Vis) (n:Nat):List Int:=(List.range (dimsOf x.types).toNat).map fun j=>DX x l n j
def E7 (a b:List Int):List Int:=(List.range a.length).map fun j=>nth a j+nth b j
def uR (a b:List Int):List Int:=(List.range a.length).map fun j=>nth a j-nth b j
theorem E8 {x:Inst} {l:List Vis} {n:Nat} :(Wf x l n).length=(dimsOf x.types).toNat:=by simp [Wf]
theorem KR {f:Nat->Int} {n j:Nat} (h:j<n):nth ((List.range n).map f) j=f j:=by
 grind [Zh]
theorem To {x:Inst} {l:List Vis} (h:SqOk x l) {k:Nat} (hk:k<l.length):Wf x l (k+1)=if (nth l k).drp=true then uR (Wf x l k) (nth x.orders (nth l k).order.toNat).load else E7 (Wf x l k) (nth x.orders (nth l k).order.toNat).load:=by
 have key: ∀g:Nat->Int,(∀j,j<(dimsOf x.types).toNat->DX x l (k+1) j=g j)->Wf x l (k+1)=(List.range (dimsOf x.types).toNat).map g:=fun g hg =>
  W0 fun j hj=>hg j (ZM.1 hj)
 split
 ·simp_all [uR,Ij,Wf,KR]
 simp_all [E7,Ij,Wf,KR]
set_option maxRecDepth 8000
section
variable {σ : Type}
def Bd (nx:List Vis->List Vis):Nat->List Vis->List (List Vis)
 | 0,l=> [l]
 | f+1,l=>if nx l= [] then [l] else (nx l).flatMap fun v=>Bd nx f (l++ [v])
def lvW (nx:List Vis->List Vis) (go:σ->Vis->σ) (emp:σ->Bool):Nat->List Vis->σ->List (List Vis)
 | 0,l,_=> [l]
 | f+1,l,s=>(nx l).flatMap fun v=>if emp (go s v)=true then [] else lvW nx go emp f (l++ [v]) (go s v)
theorem Sp {nx:List Vis->List Vis} : ∀(f:Nat) (l m:List Vis),m∈Bd nx f l-> ∃r,m=l++r
 | 0,l,m,h=>by simp_all [Bd]
 | f+1,l,m,h=>by
  rw [Bd] at h
  split at h
  ·simp_all
  ·obtain ⟨v,_,h⟩:=XU.1 h;obtain ⟨r,rfl⟩:=Sp f _ m h;simp
theorem UC {α β:Type} {p:β->Bool} {g:α->List β} : ∀l:List α,(l.flatMap g).filter p=l.flatMap fun a=>(g a).filter p
 | []=>rfl
 | a::l=>by rw [Qj,Qj,List.filter_append,UC l]
theorem Cf {α β:Type} {g h:α->List β} : ∀ {l:List α},(∀a∈l,g a=h a)->l.flatMap g=l.flatMap h
 | [],_=>rfl
 | a::l,e=>by rw [Qj,Qj,e a Zb,Cf fun b hb=>e b (Yq _ hb)]
theorem wY {nx:List Vis->List Vis} {go:σ->Vis->σ} {emp:σ->Bool} {ok:List Vis->Bool} {G:List Vis->Prop} {R:List Vis->σ->Prop} {tot:Nat}
  (hG: ∀l v,G l->v∈nx l->G (l++ [v])) (hR: ∀l s v,G l->R l s->v∈nx l->R (l++ [v]) (go s v)) (hE: ∀l s,G l->R l s->emp s=true-> ∀r,ok (l++r)=false)
  (hN: ∀l,G l->l.length<tot->nx l≠ []): ∀(f:Nat) (l:List Vis) (s:σ),G l->R l s->l.length+f=tot->(Bd nx f l).filter ok=(lvW nx go emp f l s).filter ok
 | 0,l,s,_,_,_=>rfl
 | f+1,l,s,hl,hs,ht=>by
  rw [Bd,lvW,if_neg (hN l hl Za),UC,UC];refine Cf fun v hv=> ?_;have h1:=hG l v hl hv;have h2:=hR l s v hl hs hv
  split
  ·rename_i he;rw [List.filter_nil,List.filter_eq_nil_iff];intro m hm;obtain ⟨r,rfl⟩:=Sp f _ m hm
   grind
  ·exact wY hG hR hE hN f _ _ h1 h2 (by simp;omega)
def XE (ok:List Vis->Bool) (col:List Vis->Col) (better:Col->Col->Bool) (b:Col×Bool) (l:List Vis):Col×Bool:=if ok l=true/\(b.2=false\/better (col l) b.1=true) then (col l,true) else b
theorem QT {ok:List Vis->Bool} {col:List Vis->Col} {better:Col->Col->Bool} : ∀(L:List (List Vis)) (b:Col×Bool),L.foldl (XE ok col better) b=(L.filter ok).foldl (XE ok col better) b
 | [],b=>rfl
 | l::L,b=>by
  rw [XR,CF]
  split
  ·rw [XR];exact QT L _
  ·rename_i h;rw [XE,if_neg (fun g=>h g.1)];exact QT L b
theorem GH {ok:List Vis->Bool} {col:List Vis->Col} {better:Col->Col->Bool} : ∀(L:List (List Vis)) (c c':Col),(L.foldl (XE ok col better) (c,false)).2=(L.foldl (XE ok col better) (c',false)).2/\((L.foldl (XE ok col better) (c,false)).2=true->(L.foldl (XE ok col better) (c,false)).1=(L.foldl (XE ok col better) (c',false)).1)
 | [],c,c'=>⟨rfl,fun h=>by cases h⟩
 | l::L,c,c'=>by
  rw [XR,XR]
  by_cases h:ok l=true
  ·rw [XE,if_pos ⟨h,.inl rfl⟩,XE,if_pos ⟨h,.inl rfl⟩];simp
  ·rw [XE,if_neg (fun g=>h g.1),XE,if_neg (fun g=>h g.1)];exact GH L c c'
end
set_option maxHeartbeats 8000000
def Jg (l:List Pt) (t:Int) (i:Nat):Bool:=decide ((nth l i).t<=t)&&decide (t<(nth l (i+1)).t)
def Hd (p q:Pt) (t:Int):Int:=p.a+((t-p.t)*(q.a-p.a)+q.t-p.t-1) / (q.t-p.t)
def JI (l:List Pt) (t:Int):Int:=match (List.range (l.length-1)).find? (Jg l t) with
 | some i=>Hd (nth l i) (nth l (i+1)) t
 | none=>if (nth l 0).t<t then t+(nth l (l.length-1)).a-(nth l (l.length-1)).t else t+(nth l 0).a-(nth l 0).t
theorem IL {l:List Pt} {t:Int} {i:Nat} (hi:i+1<l.length) (hno: ∀j,j<i->Jg l t j=false) (h:Jg l t i=true):JI l t=Hd (nth l i) (nth l (i+1)) t:=by
 have:(List.range (l.length-1)).find? (Jg l t)=some i:=by
  grind [EF]
 rw [JI,this]
theorem Ez {l:List Pt} {t:Int} (hno: ∀j,j+1<l.length->Jg l t j=false):JI l t=if (nth l 0).t<t then t+(nth l (l.length-1)).a-(nth l (l.length-1)).t else t+(nth l 0).a-(nth l 0).t:=by
 grind [JI]
theorem Gn {p q:Pt} {t:Int} (h1:p.t<=t) (h2:t<q.t) (hp:0<=p.t) (hq:q.t<=4096) (ha:p.a<=q.a) (hpa:0<=p.a) (hqa:q.a<=8192):0<=(t-p.t)*(q.a-p.a)/\(t-p.t)*(q.a-p.a)<=33554432:=by
 refine ⟨UI Za Za,?_⟩;have:(t-p.t)*(q.a-p.a)<=4096*8192:=VG Za Za Za Za;omega
theorem OZ (l:List Pt) (c:Bool) (t:Int) (hl:W9 l) (ht:0<=t/\t<=1073741824):PC 285 [.p (.list c (l.map Hs)),.p (.int .i64 t)] (.int .i64 (JI l t)):=by
 obtain ⟨⟨hl1,hl2⟩,hpt⟩:=hl;refine Zd Tryz.func285 rfl ZcC ?_;simp (disch:=omega) only [Tryz.f285,go_sem,seval];refine ((gM l c Za).frozenE).useV fun m hm=>Zc ?_
 have hm0:m.length=0:=by rw [hm.emp.2 ⟨⟨hl1,hl2⟩,hpt⟩];rfl
 have e1: ¬t<0:=Za
 have e2: ¬ 1073741824<t:=Za
 simp (disch:=omega) only [hm0,e1,e2,go_sem,seval];refine Zl [0,1] (fun k:Nat=> [(5,.p (.int .i64 k))]) (fun _=> []) (fun k=>k<l.length/\ ∀j,j<k->Jg l t j=false) (fun k=>l.length-k) 0 (by simp;omega) (Weak.mk ?_) ?_
 ·simp (disch:=omega) only [go_sem,seval,↓reduceIte]
 ·rintro k ⟨hk,hno⟩;refine Zc ?_;refine cD ?_ ?_<;>intro h<;>simp (disch:=omega) only [Sh.out h,go_sem,seval,↓reduceIte]
  ·have hk2:k+1<l.length:=Za
   obtain ⟨⟨p1,p2,p3,p4⟩,_⟩:=hpt k hk;obtain ⟨⟨q1,q2,q3,q4⟩,q5⟩:=hpt (k+1) hk2;obtain ⟨r1,r2⟩:=q5 Za;rw [Nat.add_sub_cancel] at r1 r2;refine gT ?_ ?_<;>intro h2<;>simp (disch:=omega) only [Sh.out h2,go_sem,seval,↓reduceIte]
   ·refine cD ?_ ?_<;>intro h3<;>simp (disch:=omega) only [Sh.out h3,go_sem,seval,↓reduceIte]
    ·have hsg:Jg l t k=true:=by simp [Jg,h2,h3]
     rw [IL hk2 hno hsg];obtain ⟨s1,s2⟩:=Gn h2 h3 p1 q2 r2 Za Za;have d1:0<=((t-(nth l k).t)*((nth l (k+1)).a-(nth l k).a)+(nth l (k+1)).t-(nth l k).t-1) / ((nth l (k+1)).t-(nth l k).t):=Int.ediv_nonneg Za Za;have d2:((t-(nth l k).t)*((nth l (k+1)).a-(nth l k).a)+(nth l (k+1)).t-(nth l k).t-1) / ((nth l (k+1)).t-(nth l k).t)<=33558528:=Int.le_trans (Int.ediv_le_self _ Za) Za
     have d3: ¬(nth l (k+1)).t-(nth l k).t=0:=Za
     simp only [Hd];refine Xe ?_;simp (disch:=omega) only [go_sem,seval,↓reduceIte]
    ·have hsg:Jg l t k=false:=by simp [Jg,h3]
     exact ⟨k+1,⟨Za,Zr.2 ⟨hno,hsg⟩⟩,Za,wk⟩
   ·have hsg:Jg l t k=false:=by simp [Jg,h2]
    exact ⟨k+1,⟨Za,Zr.2 ⟨hno,hsg⟩⟩,Za,wk⟩
  ·have hkl:k+1=l.length:=Za
   rw [Ez (fun j hj=>hno j Za)];obtain ⟨⟨p1,p2,p3,p4⟩,_⟩:=hpt 0 Za;obtain ⟨⟨q1,q2,q3,q4⟩,_⟩:=hpt (l.length-1) Za
   have i1:((l.length:Int)-1).toNat=l.length-1:=Za
   refine cD ?_ ?_<;>intro h2<;>simp (disch:=omega) only [Sh.out h2,go_sem,seval,↓reduceIte]
theorem ZZ {α:Type} [Inhabited α] {l:List α} {i:Nat} (h:i<l.length):nth l i∈l:=by grind [Zh]
def pJ (a:Arc):Prop:=W9 a.travel/\a.slow.length<=16/\ ∀p∈a.slow,0<=p.t/\p.t<=4096/\0<=p.a/\p.a<=4096
def Kp (l:List Pt) (t:Int) (k:Nat):Int:=(l.take k).foldl (fun s p=>if p.t<=t then s+p.a else s) 0
def IK (a:Arc) (t:Int):Int:=JI a.travel t+Kp a.slow t a.slow.length
theorem BL {l:List Pt} {t:Int} {k:Nat} (h:k<l.length):Kp l t (k+1)=if (nth l k).t<=t then Kp l t k+(nth l k).a else Kp l t k:=by
 grind [Kp,X0,Zh]
theorem JB {l:List Pt} {t:Int} (hl: ∀p∈l,0<=p.a/\p.a<=4096): ∀k,k<=l.length->0<=Kp l t k/\Kp l t k<=4096*k
 | 0,_=>by simp [Kp]
 | k+1,h=>by
  have ih:=JB (t:=t) hl k Za
  grind [ZZ,BL]
theorem Fg {l:List Pt} {t:Int} (hl:W9 l) (ht:0<=t/\t<=1073741824):0<=JI l t/\JI l t<=1107304448:=by
 obtain ⟨⟨hl1,hl2⟩,hpt⟩:=hl;unfold JI
 split
 ·rename_i i hi;have hm:=Q8 hi;have hs:=QJ hi;simp at hm;simp only [Jg,ZH,Zs] at hs;obtain ⟨⟨p1,p2,p3,p4⟩,_⟩:=hpt i Za;obtain ⟨⟨q1,q2,q3,q4⟩,q5⟩:=hpt (i+1) Za;obtain ⟨r1,r2⟩:=q5 Za;rw [Nat.add_sub_cancel] at r1 r2;obtain ⟨s1,s2⟩:=Gn hs.1 hs.2 p1 q2 r2 Za Za;have d1:0<=((t-(nth l i).t)*((nth l (i+1)).a-(nth l i).a)+(nth l (i+1)).t-(nth l i).t-1) / ((nth l (i+1)).t-(nth l i).t):=Int.ediv_nonneg Za Za;have d2:((t-(nth l i).t)*((nth l (i+1)).a-(nth l i).a)+(nth l (i+1)).t-(nth l i).t-1) / ((nth l (i+1)).t-(nth l i).t)<=33558528:=Int.le_trans (Int.ediv_le_self _ Za) Za
  unfold Hd;omega
 ·obtain ⟨⟨p1,p2,p3,p4⟩,_⟩:=hpt 0 Za;obtain ⟨⟨q1,q2,q3,q4⟩,_⟩:=hpt (l.length-1) Za;omega
theorem O0 (a:Arc) (t:Int) (ha:pJ a) (ht:0<=t/\t<=1073741824):PC 267 [.p (VS a),.p (.int .i64 t)] (.int .i64 (IK a t)):=by
 obtain ⟨h1,h2,h3⟩:=ha;have hr:=Fg h1 ht;have hs:=JB (t:=t) (fun p hp=>(h3 p hp).2.2);refine Zd Tryz.func267 rfl Zck ?_;simp (disch:=omega) only [Tryz.f267,go_sem,seval];refine (OZ a.travel a.travel_c t h1 ht).use (Zc ?_);refine Zl [1,2] (fun k:Nat=> [(5,.p (.int .i64 (JI a.travel t+Kp a.slow t k))),(6,.p (.int .i64 k))]) (fun _=> [Vc a]) (fun k=>k<=a.slow.length) (fun k=>a.slow.length-k) 0 Zb (Weak.mk ?_) ?_
 ·simp (disch:=omega) only [Vc,Kp,UJ,go_sem,seval];simp
 ·intro k hk;have hsk:=hs k hk;simp (disch:=omega) only [Vc,go_sem,seval];refine cD ?_ ?_<;>intro h<;>simp (disch:=omega) only [Sh.out h,go_sem,seval,↓reduceIte]
  ·have hk2:k<a.slow.length:=Za
   have hp:=h3 _ (ZZ hk2);have hsn:=BL (t:=t) hk2;refine ZR ?_ ?_<;>intro h4
   ·rw [if_pos h4] at hsn;exact ⟨k+1,Za,Za,Weak.mk (by simp (disch:=omega) only [hsn,Int.add_assoc,go_sem,seval])⟩
   ·rw [if_neg h4] at hsn;exact ⟨k+1,Za,Za,Weak.mk (by simp (disch:=omega) only [hsn,go_sem,seval])⟩
  grind [IK]
theorem OB {g:FuncId} {args:List V} {a b c:PV} {H:List AM.Obj} {K:V->List AM.Obj->Prop} (h:ACalls Tryz.prog g args [] fun x H'=>x= .tup [.p a,.p b,.p c]/\H'= []) (k:K (.tup [.p a,.p b,.p c]) H) (ha:Xn 0 args=true:=by rfl):ACalls Tryz.prog g args H K :=
 (h.behind ha H).mono fun x H' hq=>by
  obtain ⟨y,H1,⟨rfl,rfl⟩,rfl,rfl⟩:=hq
  grind [shV,shVs]
theorem Yi {g:FuncId} {args:List V} {a b:PV} {H:List AM.Obj} {K:V->List AM.Obj->Prop} (h:ACalls Tryz.prog g args [] fun x H'=>x= .tup [.p a,.p b]/\H'= []) (k:K (.tup [.p a,.p b]) H) (ha:Xn 0 args=true:=by rfl):ACalls Tryz.prog g args H K :=
 (h.behind ha H).mono fun x H' hq=>by
  obtain ⟨y,H1,⟨rfl,rfl⟩,rfl,rfl⟩:=hq
  grind [shV,shVs]
def KT (n:Net) (p:Int):Bool:=decide (0<=p)&&decide (p<(n.places.length:Int))
theorem HY (n:Net) (p:Int) (hn:n.places.length<=1048576):PC 265 [.p (Cb n),.p (.int .i64 p)] (.bool (KT n p)):=by
 refine Zd Tryz.func265 rfl Zci ?_;simp (disch:=omega) only [Tryz.f265,go_sem,seval];refine gT ?_ ?_<;>intro h<;>simp (disch:=omega) only [Sh.out h,go_sem,seval,↓reduceIte]
 ·simp [KT,h]
 ·simp [KT,h]
def Vx (pr f t:Int) (a:Arc):Bool:=decide (a.src=f)&&decide (a.dst=t)&&decide (a.prof=pr)
def Ue : Arc:=⟨0,0,0,0,true,[],true,[]⟩
def WX (n:Net) (pr f t:Int):Arc×Bool:=match n.arcs.find? (Vx pr f t) with | some a=>(a,true) | none=>(Ue,false)
theorem MY {n:Net} {pr f t:Int} {k:Nat} (hk:k<n.arcs.length) (hno: ∀j,j<k->Vx pr f t (nth n.arcs j)=false) (h:Vx pr f t (nth n.arcs k)=true):WX n pr f t=(nth n.arcs k,true):=by
 have:n.arcs.find? (Vx pr f t)=some (nth n.arcs k):=by
  grind [EF,Zh]
 rw [WX,this]
theorem MZ {n:Net} {pr f t:Int} (hno: ∀j,j<n.arcs.length->Vx pr f t (nth n.arcs j)=false):WX n pr f t=(Ue,false):=by
 have:n.arcs.find? (Vx pr f t)=none:=by
  rw [Au];intro a ha;obtain ⟨j,hj,rfl⟩:=ZN.1 ha
  grind [Zh]
 rw [WX,this]
theorem iM (n:Net) (pr f t:Int) (hn:n.arcs.length<=1048576):PT 266 [.p (Cb n),.p (.int .i64 pr),.p (.int .i64 f),.p (.int .i64 t)] [.p (VS (WX n pr f t).1),.p (.bool (WX n pr f t).2)]:=by
 refine Zf [] Tryz.func266 rfl Zcj ?_;simp (disch:=omega) only [Tryz.f266,go_sem,seval];refine Zl [1,2,3,4,8] (fun k:Nat=> [(10,.p (.int .i64 k))]) (fun _=>Z7 n++ [Vc Ue]) (fun k=>k<=n.arcs.length/\ ∀j,j<k->Vx pr f t (nth n.arcs j)=false) (fun k=>n.arcs.length-k) 0 Zb (Weak.mk ?_) ?_
 ·simp (disch:=omega) only [Z7,Vc,Ue,Zn,ZL,Zz,go_sem,seval]
 ·rintro k ⟨hk,hno⟩;simp (disch:=omega) only [Z7,Vc,Ue,Zn,ZL,Zz,go_sem,seval];refine cD ?_ ?_<;>intro h<;>simp (disch:=omega) only [Sh.out h,go_sem,seval,↓reduceIte]
  ·have hk2:k<n.arcs.length:=Za
   have nx:Vx pr f t (nth n.arcs k)=false-> ∀j,j<k+1->Vx pr f t (nth n.arcs j)=false:=fun h=>Zr.2 ⟨hno,h⟩;refine Q1 ?_ ?_<;>intro h1
   ·refine Q1 ?_ ?_<;>intro h2
    ·refine ZR ?_ ?_<;>intro h3
     ·have e:=MY hk2 hno (by grind [Vx]);rw [e];exact we
     ·exact ⟨k+1,⟨Za,nx (by simp [Vx,h3])⟩,Za,wk⟩
    ·exact ⟨k+1,⟨Za,nx (by simp [Vx,h2])⟩,Za,wk⟩
   ·exact ⟨k+1,⟨Za,nx (by simp [Vx,h1])⟩,Za,wk⟩
  ·have hkn:k=n.arcs.length:=Za
   subst hkn;rw [MZ hno];exact we (by simp (disch:=omega) only [Ue,Zn,go_sem,seval])
def WY (n:Net) (pr f t τ:Int):Int×Int×Int :=
 if (KT n f&&KT n t)=false then (0,0,11) else if f=t then (τ,0,0) else if (WX n pr f t).2=true then (IK (WX n pr f t).1 τ,(WX n pr f t).1.miles,0) else (0,0,12)
def netR (n:Net):Prop:=n.places.length<=1048576/\n.arcs.length<=1048576/\ ∀a∈n.arcs,pJ a
theorem Ak {n:Net} {pr f t:Int} (h:(WX n pr f t).2=true):(WX n pr f t).1∈n.arcs:=by
 grind [WX]
theorem Zai (n:Net) (pr f t τ:Int) (hn:netR n) (hτ:0<=τ/\τ<=1073741824):PT 243 [.p (Cb n),.p (.int .i64 pr),.p (.int .i64 f),.p (.int .i64 t),.p (.int .i64 τ)] [.p (.int .i64 (WY n pr f t τ).1),.p (.int .i64 (WY n pr f t τ).2.1),.p (.int .i64 (WY n pr f t τ).2.2)]:=by
 refine Zf [] Tryz.func243 rfl ZbX ?_;simp (disch:=omega) only [Tryz.f243,go_sem,seval];refine (HY n f hn.1).use (Zc ?_);refine gF ?_ ?_<;>intro h1<;>simp (disch:=omega) only [Sh.out h1,go_sem,seval,↓reduceIte]
 ·have e:WY n pr f t τ=(0,0,11):=by grind [WY]
  rw [e];exact we
 ·simp only [XP] at h1;refine (HY n t hn.1).use (Zc ?_);refine cD ?_ ?_<;>intro h2<;>simp (disch:=omega) only [Sh.out h2,go_sem,seval]
  ·have e:WY n pr f t τ=(0,0,11):=by grind [WY]
   rw [e];exact we
  ·simp only [XP] at h2;refine cD ?_ ?_<;>intro h3<;>simp (disch:=omega) only [Sh.out h3,go_sem,seval,↓reduceIte]
   ·have e:WY n pr f t τ=(τ,0,0):=by grind [WY]
    rw [e];exact we
   ·have cf:=iM n pr f t hn.2.1;have hm:= @Ak n pr f t
    have e0:WY n pr f t τ=if (WX n pr f t).2=true then (IK (WX n pr f t).1 τ,(WX n pr f t).1.miles,0) else (0,0,12):=by grind [WY]
    rw [e0];generalize WX n pr f t=A at cf hm ⊢;obtain ⟨a,b⟩:=A;simp only at cf hm ⊢;refine Yi cf (Zc ?_);refine cD ?_ ?_<;>intro h4<;>simp (disch:=omega) only [Sh.out h4,go_sem,seval]
    ·have hb:b=false:=by grind
     subst hb;exact we (by simp (disch:=omega) only [go_sem,seval,↓reduceIte])
    ·have hb:b=true:=by grind
     subst hb;refine Xe (Zc ?_);refine Zo (O0 a τ (hn.2.2 a (hm rfl)) hτ) (Zc ?_);exact we
theorem vG (x:Inst) (pr f t τ:Int) (hn:netR x.net) (hτ:0<=τ/\τ<=1073741824):PT 228 [.p (Zv x),.p (.int .i64 pr),.p (.int .i64 f),.p (.int .i64 t),.p (.int .i64 τ)] [.p (.int .i64 (WY x.net pr f t τ).1),.p (.int .i64 (WY x.net pr f t τ).2.1),.p (.bool (decide ((WY x.net pr f t τ).2.2=0)))]:=by
 refine Zf [] Tryz.func228 rfl ZbJ ?_;simp (disch:=omega) only [Tryz.f228,go_sem,seval];refine OB (Zai x.net pr f t τ hn hτ) (Zc ?_);exact we
structure StD where
 place:Int
 time:Int
 driven:Int
 miles:Int
def iF (s:StD):PV:= .agg [.int .i64 s.place,.int .i64 s.time,.int .i64 s.driven,.int .i64 s.miles]
@[go_sem] theorem ZlM (s:StD):iF s= .agg [.int .i64 s.place,.int .i64 s.time,.int .i64 s.driven,.int .i64 s.miles]:=Zk rfl rfl
def Gf (t:Typ) (s:StD) (b:Bool):StD:=if b=true then { s with time:=s.time+t.rest,driven:=0 } else s
theorem NU (t:Typ) (s:StD) (b:Bool) (hb: -1099511627776<=s.time/\s.time<=1099511627776/\ -1099511627776<=t.rest/\t.rest<=1099511627776):PC 215 [.p (X4 t),.p (iF s),.p (.bool b)] (iF (Gf t s b)):=by
 refine Zd Tryz.func215 rfl ZbA ?_
 cases b with
 | true=>simp (disch:=omega) only [Tryz.f215,Gf,go_sem,seval,↓reduceIte]
 | false=>simp (disch:=omega) only [Tryz.f215,Gf,YX,go_sem,seval,↓reduceIte]
def JC (x:Inst) (t:Typ) (s:StD) (to cl late:Int):StD×Int :=
 if ¬(WY x.net t.prof s.place to s.time).2.2=0 then (s,12)
 else if cl<(WY x.net t.prof s.place to s.time).1 then (s,late)
 else if t.drive<s.driven+(WY x.net t.prof s.place to s.time).1-s.time then (s,16)
 else (⟨to,(WY x.net t.prof s.place to s.time).1,s.driven+(WY x.net t.prof s.place to s.time).1-s.time,s.miles+(WY x.net t.prof s.place to s.time).2.1⟩,0)
def eA (n:Int):Prop:= -1099511627776<=n/\n<=1099511627776
theorem Oo (x:Inst) (t:Typ) (s:StD) (to cl late:Int) (hn:netR x.net) (hs:0<=s.time/\s.time<=1073741824) (hd:eA s.driven) (hm:eA s.miles) (hg:eA (WY x.net t.prof s.place to s.time).1/\eA (WY x.net t.prof s.place to s.time).2.1) :
  PT 216 [.p (Zv x),.p (X4 t),.p (iF s),.p (.int .i64 to),.p (.int .i64 cl),.p (.int .i64 late)] [.p (iF (JC x t s to cl late).1),.p (.int .i64 (JC x t s to cl late).2)]:=by
 have cw:=vG x t.prof s.place to s.time hn hs;unfold JC;generalize WY x.net t.prof s.place to s.time=g at cw hg ⊢;obtain ⟨a,m,e⟩:=g;unfold eA at hd hm hg;simp only at cw hg ⊢;refine Zf [] Tryz.func216 rfl ZbB ?_;simp (disch:=omega) only [Tryz.f216,go_sem,seval];refine OB cw (Zc ?_);refine cD ?_ ?_<;>intro h1<;>simp (disch:=omega) only [Sh.out h1,go_sem,seval,↓reduceIte]
 ·exact we
 ·rw [if_neg h1];refine cD ?_ ?_<;>intro h2<;>simp (disch:=omega) only [Sh.out h2,go_sem,seval,↓reduceIte]
  ·exact we
  ·rw [if_neg h2];refine cD ?_ ?_<;>intro h3<;>simp (disch:=omega) only [Sh.out h3,go_sem,seval,↓reduceIte]
   ·exact we
   ·exact we
structure Lab where
 ready:Int
 since:Int
 she:She
 deriving Inhabited
def zShe : She:=⟨false,0,true,[],0,0⟩
def WW : Lab:=⟨0,0,zShe⟩
def ZK (t:Typ) (L:Lab) (b:Bool):Int:=if b=true then L.ready+t.rest else L.ready
def WU (L:Lab) (b:Bool):Int:=if b=true then 0 else L.since
def Ss (l:List Tim) (k:Nat) (d:Int) (b:Bool):List Tim:=l.set k { nth l k with dep:=d,rest:=b }
def X1 (k:Nat) (d:Int) (b:Bool) (s:She):She:=if k=0 then { s with rest:=b,dep:=d } else { s with times:=Ss s.times (k-1) d b }
def V7 (t:Typ) (sp:List Stp) (k:Nat):Int:=if k=0 then t.src else (nth sp (k-1)).place
def OM (t:Typ) (sp:List Stp) (k:Nat):Int:=if k=sp.length then t.dst else (nth sp k).place
def Y2 (x:Inst) (t:Typ) (sp:List Stp) (k:Nat) (d:Int):Int×Int×Int:=WY x.net t.prof (V7 t sp k) (OM t sp k) d
def WB (t:Typ) (sp:List Stp) (k:Nat) (g:Int×Int×Int) (d s:Int) (h:She):Lab×Int :=
 if ¬g.2.2=0 then (WW,12)
 else if k=sp.length then
  if t.cls<g.1 then (WW,15) else if t.drive<s+g.1-d then (WW,16)
  else (⟨g.1,s+g.1-d,{ h with fin:=g.1,miles:=h.miles+g.2.1 }⟩,0)
 else if (nth sp k).cls<max g.1 (nth sp k).opn then (WW,14)
 else if t.drive<s+g.1-d then (WW,16)
 else (⟨max g.1 (nth sp k).opn+(nth sp k).serv,s+g.1-d,{ h with times_c:=false,times:=h.times++ [⟨g.1,max g.1 (nth sp k).opn,0,false⟩],miles:=h.miles+g.2.1 }⟩,0)
def nxtF (x:Inst) (t:Typ) (sp:List Stp) (k:Nat) (L:Lab) (b:Bool):Lab×Int :=
 WB t sp k (Y2 x t sp k (ZK t L b)) (ZK t L b) (WU L b) (X1 k (ZK t L b) b L.she)
def XA (x:Inst) (t:Typ) (sp:List Stp) (k:Nat) (L:Lab) (b:Bool):Option Lab:=if (nxtF x t sp k L b).2=0 then some (nxtF x t sp k L b).1 else none
def Xc (x:Inst) (t:Typ) (sp:List Stp):Nat->Lab->List Bool->Lab×Int
 | _,L,[]=>(L,0)
 | k,L,b::bs=>if (nxtF x t sp k L b).2=0 then Xc x t sp (k+1) (nxtF x t sp k L b).1 bs else (WW,(nxtF x t sp k L b).2)
def labF (t:Typ) (st:Int):Lab:=⟨max t.opn st,0,zShe⟩
theorem Yw {x:Inst} {t:Typ} {sp:List Stp} : ∀(bs:List Bool) (k:Nat) (L:Lab),Wc (XA x t sp) k L bs=if (Xc x t sp k L bs).2=0 then some (Xc x t sp k L bs).1 else none
 | [],k,L=>by rfl
 | b::bs,k,L=>by
  rw [Wc,Xc,XA]
  by_cases h:(nxtF x t sp k L b).2=0
  ·simp only [h,if_true];exact Yw bs (k+1) _
  ·simp [h]
structure TrpOk (x:Inst) (t:Typ) (sp:List Stp):Prop where
 net:netR x.net
 mil: ∀a∈x.net.arcs,0<=a.miles/\a.miles<=10000
 opn:0<=t.opn/\t.opn<=t.cls/\t.cls<=4096
 drv:1<=t.drive/\t.drive<=4096
 rst:0<=t.rest/\t.rest<=4096
 stp: ∀s∈sp,0<=s.opn/\s.opn<=s.cls/\s.cls<=4096/\0<=s.serv/\s.serv<=4096
 len:sp.length<=20
structure LabR (k:Nat) (L:Lab):Prop where
 rdy:0<=L.ready/\L.ready<=8192
 snc: -(12288*(k:Int))<=L.since/\L.since<=4096
 mil:0<=L.she.miles/\L.she.miles<=10000*(k:Int)
theorem Le {n:Net} {pr f t τ:Int} (hn:netR n) (hm: ∀a∈n.arcs,0<=a.miles/\a.miles<=10000) (hτ:0<=τ/\τ<=1073741824):(0<=(WY n pr f t τ).1/\(WY n pr f t τ).1<=1107369984)/\(0<=(WY n pr f t τ).2.1/\(WY n pr f t τ).2.1<=10000):=by
 unfold WY
 split
 ·simp
 ·split
  ·grind
  ·split
   ·rename_i h;have hA:=Ak h;have h1:=Fg (hn.2.2 _ hA).1 hτ;have h2:=JB (t:=τ) (fun p hp=>((hn.2.2 _ hA).2.2 p hp).2.2) _ (ZB _);have h3:=(hn.2.2 _ hA).2.1
    grind [IK]
   ·simp
theorem KB {x t sp k L} (h:TrpOk x t sp) (hl:LabR k L) (b:Bool):0<=ZK t L b/\ZK t L b<=12288:=by
 have:=h.rst;have:=hl.rdy
 grind [ZK]
theorem GC {k L} (hl:LabR k L) (b:Bool): -(12288*(k:Int))<=WU L b/\WU L b<=4096:=by
 have:=hl.snc
 grind [WU]
theorem Ld {x t sp k L} (h:TrpOk x t sp) (hl:LabR k L) (b:Bool):(0<=(Y2 x t sp k (ZK t L b)).1/\(Y2 x t sp k (ZK t L b)).1<=1107369984)/\(0<=(Y2 x t sp k (ZK t L b)).2.1/\(Y2 x t sp k (ZK t L b)).2.1<=10000):=by
 have:=KB h hl b;exact Le h.net h.mil Za
theorem KK {k d b s} :(X1 k d b s).miles=s.miles:=by grind [X1]
theorem HP {k d b s} :(X1 k d b s).fin=s.fin:=by grind [X1]
theorem AK {k d b s} :(X1 k d b s).times.length=s.times.length:=by grind [X1,Ss]
theorem LB {x t sp k L b} (h:TrpOk x t sp) (hk:k<=sp.length) (hl:LabR k L) (he:(nxtF x t sp k L b).2=0):LabR (k+1) (nxtF x t sp k L b).1:=by
 have h1:=KB h hl b;have h2:=GC hl b;obtain ⟨h3,h4⟩:=Ld h hl b;have h5:=hl.mil;have h6:=h.opn;have h7:=h.drv;have hm:(X1 k (ZK t L b) b L.she).miles=L.she.miles:=KK;unfold nxtF at he ⊢
 generalize Y2 x t sp k (ZK t L b)=g at *
 generalize ZK t L b=d at *
 generalize WU L b=s at *
 generalize X1 k d b L.she=m at *
 unfold WB at he ⊢
 split at he
 ·simp at he
 ·rename_i c1;rw [if_neg c1]
  split at he
  ·rename_i c2;rw [if_pos c2]
   split at he
   ·simp at he
   ·rename_i c3;rw [if_neg c3]
    split at he
    ·simp at he
    ·rename_i c4;rw [if_neg c4];exact ⟨by grind,by grind,by grind⟩
  ·rename_i c2;rw [if_neg c2];have h8:=h.stp _ (ZZ (show k<sp.length by omega))
   split at he
   ·simp at he
   ·rename_i c3;rw [if_neg c3]
    split at he
    ·simp at he
    ·rename_i c4;rw [if_neg c4];exact ⟨by grind,by grind,by grind⟩
theorem F0 {x t sp k L b} (hl:L.she.times.length=k) (he:(nxtF x t sp k L b).2=0) (hk:k<sp.length):(nxtF x t sp k L b).1.she.times.length=k+1:=by
 have hm:(X1 k (ZK t L b) b L.she).times.length=L.she.times.length:=AK;unfold nxtF at he ⊢
 generalize Y2 x t sp k (ZK t L b)=g at *
 generalize ZK t L b=d at *
 generalize WU L b=s at *
 generalize X1 k d b L.she=m at *
 have hk2: ¬k=sp.length:=Za
 unfold WB at he ⊢
 grind
def Xd (m x:Lab):Bool:=decide (m.ready=x.ready)&&decide (m.since<=x.since)
theorem O4 {x t sp k} {m y z:Lab} {b:Bool} (hb:Xd m y=true) (hn:XA x t sp k y b=some z): ∃u,XA x t sp k m b=some u/\Xd u z=true:=by
 simp only [Xd,ZH,Zs] at hb;obtain ⟨hb1,hb2⟩:=hb
 have hd:ZK t m b=ZK t y b:=by simp [ZK,hb1]
 have hs:WU m b<=WU y b:=by grind [WU]
 unfold XA at hn ⊢;unfold nxtF at hn ⊢;rw [hd]
 generalize Y2 x t sp k (ZK t y b)=g at *
 generalize ZK t y b=d at *
 generalize WU y b=s at *
 generalize WU m b=s2 at *
 generalize X1 k d b y.she=h1 at *
 generalize X1 k d b m.she=h2 at *
 unfold WB at hn ⊢
 by_cases c1:g.2.2=0
 ·by_cases c2:k=sp.length
  ·simp only [c1,c2,not_true,if_true,YE] at hn ⊢
   by_cases c3:t.cls<g.1
   ·grind
   ·by_cases c4:t.drive<s+g.1-d
    ·grind
    ·have c5: ¬t.drive<s2+g.1-d:=Za
     simp only [c3,c4,YE,if_true,Qk] at hn;subst hn;refine ⟨_,by simp only [c3,c5,YE,if_true];rfl,?_⟩;simp [Xd];omega
  ·simp only [c1,c2,not_true,YE] at hn ⊢
   by_cases c3:(nth sp k).cls<max g.1 (nth sp k).opn
   ·grind
   ·by_cases c4:t.drive<s+g.1-d
    ·grind
    ·have c5: ¬t.drive<s2+g.1-d:=Za
     simp only [c3,c4,YE,if_true,Qk] at hn;subst hn;refine ⟨_,by simp only [c3,c5,YE,if_true];rfl,?_⟩;simp [Xd];omega
 grind
def Wh (L:Lab):Int:=L.she.fin
theorem NG {x t sp} {y z:Lab} {b:Bool} (hn:XA x t sp sp.length y b=some z):z.she.fin=z.ready:=by
 unfold XA nxtF WB at hn
 grind
theorem HJ {x t sp} (ch:Nat->List Bool) (L:Lab):W4 Wh none (Kl Xd (XA x t sp) ch (sp.length+1) 0 [L])=W4 Wh none (VL (XA x t sp) ch (sp.length+1) 0 L):=by
 have h:=Sj Wh Xd (XA x t sp) ch (n:=sp.length+1) (Inv:=fun k y=>k=sp.length+1->y.she.fin=y.ready)
  (fun k y b z _ hn hk=>by
   grind [NG]) (fun k m y b z _ _ hb hn=>O4 hb hn)
  (fun m y h1 h2 hb=>by
   simp only [Xd,ZH,Zs] at hb
   rw [Wh,Wh,h1 rfl,h2 rfl];omega) (sp.length+1) 0 [L] Za (fun y _ hk=>Za)
 rw [h];simp
def UP (r:List Bool) (k:Nat):List Bool:=match r[k]? with | some b=> [b] | none=> [false,true]
theorem R3 (r:List Bool) (n:Nat) (hn:r.length<=n): ∀(j k:Nat),k+j=r.length->I7 (UP r) (n-k) k=(YV (List.replicate (n-r.length) false)).map (r.drop k++ ·)
 | 0,k,h=>by
  have hk:k=r.length:=Za
  subst hk;rw [MW (n:=n) _ _ _ (fun q hq=>by grind [UP])];simp
 | j+1,k,h=>by
  have e:n-k=(n-(k+1))+1:=Za
  have hlt:k<r.length:=Za
  rw [e,I7,R3 r n hn j (k+1) Za]
  have:UP r k= [r[k]]:=by simp [UP,hlt]
  rw [this,Qj,List.flatMap_nil,Y8,List.map_map,VF hlt]
  rfl
theorem Hv (r:List Bool) (n:Nat) (hn:r.length<=n):I7 (UP r) n 0=(YV (List.replicate (n-r.length) false)).map (r++ ·):=by
 have:=R3 r n hn r.length 0 Za
 grind
def XD (r:List Bool) (n:Nat):List (List Bool):=(YV (List.replicate (n-r.length) false)).map (r++ ·)
def YQ (r:List Bool) (n:Nat):List Bool:=r++List.replicate (n-r.length) false
def Yn (x:Inst) (t:Typ) (sp:List Stp) (st:Int) (r:List Bool):She×Int :=
 match W4 Wh none ((XD r (sp.length+1)).filterMap (Wc (XA x t sp) 0 (labF t st))) with
 | some L=>(L.she,0)
 | none=>(zShe,(Xc x t sp 0 (labF t st) (YQ r (sp.length+1))).2)
theorem IR {x t sp} {st:Int} {r:List Bool} (hr:r.length<=sp.length+1):Yn x t sp st r=match W4 Wh none (Kl Xd (XA x t sp) (UP r) (sp.length+1) 0 [labF t st]) with
 | some L=>(L.she,0)
 | none=>(zShe,(Xc x t sp 0 (labF t st) (YQ r (sp.length+1))).2):=by
 rw [HJ,VL,Hv r _ hr];rfl
theorem N2 {x t sp} : ∀(bs:List Bool) (k:Nat) (L:Lab),L.she.times.length=k->k+bs.length=sp.length+1->0<bs.length->(Xc x t sp k L bs).2=0->(Xc x t sp k L bs).1.she.times.length=sp.length
 | [],k,L,h1,h2,h3,h=>by simp at h3
 | b::bs,k,L,h1,h2,_,h=>by
  rw [Xc] at h ⊢
  by_cases h4:(nxtF x t sp k L b).2=0
  ·simp only [h4,if_true] at h ⊢
   cases bs with
   | nil =>
    simp at h2;subst h2;rw [Xc];unfold nxtF at h4 ⊢;unfold WB at h4 ⊢
    split at h4
    ·simp at h4
    ·rename_i c1;rw [if_neg c1];simp only [if_true] at h4 ⊢
     split at h4
     ·simp at h4
     ·rename_i c2;rw [if_neg c2]
      split at h4
      ·simp at h4
      simp_all [if_neg,AK]
   | cons b2 bs =>
    simp at h2;exact N2 (b2::bs) (k+1) _ (F0 h1 h4 Za) (by simp;omega) Zb h
  grind
theorem bestF_len {x t sp} {st:Int} {r:List Bool} (hr:r.length<=sp.length+1) (h:(Yn x t sp st r).2=0):(Yn x t sp st r).1.times.length=sp.length:=by
 unfold Yn at h ⊢
 cases hf:W4 Wh none ((XD r (sp.length+1)).filterMap (Wc (XA x t sp) 0 (labF t st))) with
 | none =>
  rw [hf] at h;simp only at h ⊢;exfalso
  have hm:YQ r (sp.length+1)∈XD r (sp.length+1):=by
   grind [XD,YQ,fromB_next]
  have h2:Wc (XA x t sp) 0 (labF t st) (YQ r (sp.length+1))=some (Xc x t sp 0 (labF t st) (YQ r (sp.length+1))).1:=by rw [Yw,if_pos h]
  have h3:(Xc x t sp 0 (labF t st) (YQ r (sp.length+1))).1∈(XD r (sp.length+1)).filterMap (Wc (XA x t sp) 0 (labF t st)):=KJ.2 ⟨_,hm,h2⟩;generalize (XD r (sp.length+1)).filterMap (Wc (XA x t sp) 0 (labF t st))=l at hf h3
  cases l with
  | nil=>simp at h3
  | cons a l =>
   rw [W4] at hf;obtain ⟨z,e,_⟩:=VA Wh l a
   grind
 | some L =>
  simp only;have hm:=fmL_mem _ _ hf;obtain ⟨bs,hbs,hrun⟩:=KJ.1 hm;rw [Yw] at hrun
  split at hrun
  ·rename_i h5;simp at hrun;subst hrun;obtain ⟨q,hq,rfl⟩:=XC.1 hbs;have hql:=fromB_len _ _ hq;simp at hql;exact N2 _ 0 _ rfl (by grind) (by grind) h5
  ·cases hrun
where
 fmL_mem: ∀(l:List Lab) (L:Lab),W4 Wh none l=some L->L∈l
 | [],L,h=>by simp [W4] at h
 | a::l,L,h=>by
  rw [W4] at h;exact fmL_mem2 l a L h
 fmL_mem2: ∀(l:List Lab) (a L:Lab),W4 Wh (some a) l=some L->L∈a::l
 | [],a,L,h=>by grind [W4]
 | y::l,a,L,h=>by
  rw [W4] at h
  split at h
  ·have:=fmL_mem2 l y L h;grind
  ·have:=fmL_mem2 l a L h;grind
 fromB_len: ∀(l q:List Bool),q∈YV l->q.length=l.length
 | [],q,h=>by grind [YV]
 | b::bs,q,h=>by
  rw [YV] at h
  split at h
  ·obtain ⟨q',hq,rfl⟩:=XC.1 h;simp [fromB_len bs q' hq]
  ·rcases Xi.1 h with h | h
   ·obtain ⟨q',hq,rfl⟩:=XC.1 h;simp [fromB_len bs q' hq]
   ·obtain ⟨q',hq,rfl⟩:=XC.1 h;simp [fromB_len (List.replicate bs.length false) q' hq]
 termination_by l=>l.length
 decreasing_by all_goals simp
def Xj (x:Inst) (v:Vis):Stp:=if v.drp=true then (nth x.orders v.order.toNat).drp else (nth x.orders v.order.toNat).pick
def ZO (x:Inst) (l:List Vis):List Stp:=l.map (Xj x)
def Yk (t:Typ) (s:Int):Bool:=decide (0<=t.skills)&&decide (0<=s)&&(List.range 63).all fun i=> !s.toNat.testBit i||t.skills.toNat.testBit i
def VV (a c:List Int):Bool:=decide (a.length=c.length)&&(List.range a.length).all fun i=>decide (nth a i<=nth c i)
def Qn (x:Inst) (c:List Int) (l:List Vis):Bool:=(List.range (l.length+1)).all fun n=>VV (Wf x l n) c
def ZE (x:Inst) (r:Rte):Typ:=nth x.types r.typ.toNat
def UD (l:List Vis) (i:Nat):Bool:= !((l.take i).any fun v=>decide (v.order=(nth l i).order))
def Xq (k t:Int):Bool:=decide (k≠ -1)&&decide (k≠t)
def chgF (x:Inst) (l:List Vis) (t:Int):Nat->Int×Int
 | 0=>(0,0)
 | n+1=>if UD l n=true then ((chgF x l t n).1+(if Xq (nth x.orders (nth l n).order.toNat).now t=true then 1 else 0),(chgF x l t n).2+(if Xq (nth x.orders (nth l n).order.toNat).last t=true then 1 else 0)) else chgF x l t n
def DQ (x:Inst) (r:Rte) (s:She):Sco :=
 ⟨(ZE x r).fixed+(ZE x r).perMile*s.miles+(ZE x r).perTick*(s.fin-(ZE x r).opn),(chgF x r.visits r.typ r.visits.length).1,(chgF x r.visits r.typ r.visits.length).2,(s.fin-(ZE x r).opn).tdiv 64*(s.fin-(ZE x r).opn).tdiv 64⟩
def XW (x:Inst) (r:Rte):Int :=
 if ¬(0<=r.typ/\r.typ<(x.types.length:Int)) then 2
 else if ¬Xg x r.visits=0 then Xg x r.visits
 else if (r.visits.any fun v=> !Yk (ZE x r) (nth x.orders v.order.toNat).skills)=true then 18
 else if Qn x (ZE x r).cap r.visits=false then 17
 else if ¬(0<=r.start/\r.start<=4096/\r.rests.length<=r.visits.length+1) then 2
 else 0
def Xv (x:Inst) (r:Rte):She×Int:=Yn x (ZE x r) (ZO x r.visits) r.start r.rests
def Xw (x:Inst) (r:Rte):Int:=if XW x r=0 then (Xv x r).2 else XW x r
def X8 (x:Inst) (r:Rte):She:=if Xw x r=0 then (Xv x r).1 else zShe
def Wg (x:Inst) (r:Rte):Sco:=if Xw x r=0 then DQ x r (Xv x r).1 else zSco
def ZdN : Stp:=⟨0,0,0,0⟩
def Nh (x:Inst) (v:Vis):Bool:=decide (0<=v.order)&&decide (v.order<(x.orders.length:Int))
def Aa (x:Inst) (v:Vis):Bool:=Nh x v&&decide (0<=(Xj x v).place)
def Dd (x:Inst) (v:Vis):Stp:=if Nh x v=true then Xj x v else ZdN
theorem Oq (x:Inst) (v:Vis) (ho:x.orders.length<=1048576):PT 181 [.p (Zv x),.p (Z8 v)] [.p (Fw (Dd x v)),.p (.bool (Aa x v))]:=by
 refine Zf [] Tryz.func181 rfl Zbi ?_;simp (disch:=omega) only [Tryz.f181,go_sem,seval];refine gF ?_ ?_<;>intro h1<;>simp (disch:=omega) only [Sh.out h1,go_sem,seval,↓reduceIte]
 ·have e:Nh x v=false:=by
   grind [Nh]
  simp only [Dd,Aa,e,QI,YX,YE,ZdN];exact we
 ·refine cD ?_ ?_<;>intro h2<;>simp (disch:=omega) only [Sh.out h2,go_sem,seval,↓reduceIte]
  ·have e:Nh x v=false:=by
    grind [Nh]
   simp only [Dd,Aa,e,QI,YX,YE,ZdN];exact we
  ·have e:Nh x v=true:=by simp [Nh];omega
   have hi:v.order.toNat<x.orders.length:=Za
   refine cD ?_ ?_<;>intro hd<;>simp (disch:=omega) only [Sh.out hd,go_sem,seval,↓reduceIte]
   ·have hG:Dd x v=(nth x.orders v.order.toNat).drp:=by simp [Dd,e,Xj,hd]
    have hV:Aa x v=decide (0<=(nth x.orders v.order.toNat).drp.place):=by simp [Aa,e,Xj,hd]
    rw [hG,hV];refine Fk (.cons 0 (.cons 1 (.cons 2 (.cons 3 (.cons 4 (.cons 5 .nil .nil) .nil) (.cons 4 (.cons 3 (.cons 5 .nil .nil) .nil) .nil)) (.cons 4 (.cons 2 (.cons 3 (.cons 5 .nil .nil) .nil) .nil) .nil)) (.cons 4 (.cons 1 (.cons 2 (.cons 3 (.cons 5 .nil .nil) .nil) .nil) .nil) .nil)) (.cons 1 (.cons 0 (.cons 2 (.cons 3 (.cons 4 (.cons 5 .nil .nil) .nil) (.cons 4 (.cons 3 (.cons 5 .nil .nil) .nil) .nil)) (.cons 4 (.cons 2 (.cons 3 (.cons 5 .nil .nil) .nil) .nil) .nil)) (.cons 2 (.cons 0 (.cons 3 (.cons 4 (.cons 5 .nil .nil) .nil) (.cons 4 (.cons 3 (.cons 5 .nil .nil) .nil) .nil)) (.cons 3 (.cons 0 (.cons 4 (.cons 5 .nil .nil) .nil) .nil) .nil)) .nil)) .nil)) mixed Ze ?_
    refine Zc ?_
    repeat' first
     | refine Dl ?_ ?_
     | exact we
     | simp (disch:=omega) only [go_sem,seval,↓reduceIte]
   ·have hG:Dd x v=(nth x.orders v.order.toNat).pick:=by simp [Dd,e,Xj,hd]
    have hV:Aa x v=decide (0<=(nth x.orders v.order.toNat).pick.place):=by simp [Aa,e,Xj,hd]
    rw [hG,hV];refine Fk (.cons 0 (.cons 1 (.cons 2 (.cons 3 (.cons 4 (.cons 5 .nil .nil) .nil) (.cons 4 (.cons 3 (.cons 5 .nil .nil) .nil) .nil)) (.cons 4 (.cons 2 (.cons 3 (.cons 5 .nil .nil) .nil) .nil) .nil)) (.cons 4 (.cons 1 (.cons 2 (.cons 3 (.cons 5 .nil .nil) .nil) .nil) .nil) .nil)) (.cons 1 (.cons 0 (.cons 2 (.cons 3 (.cons 4 (.cons 5 .nil .nil) .nil) (.cons 4 (.cons 3 (.cons 5 .nil .nil) .nil) .nil)) (.cons 4 (.cons 2 (.cons 3 (.cons 5 .nil .nil) .nil) .nil) .nil)) (.cons 2 (.cons 0 (.cons 3 (.cons 4 (.cons 5 .nil .nil) .nil) (.cons 4 (.cons 3 (.cons 5 .nil .nil) .nil) .nil)) (.cons 3 (.cons 0 (.cons 4 (.cons 5 .nil .nil) .nil) .nil) .nil)) .nil)) .nil)) mixed Ze ?_
    refine Zc ?_
    repeat' first
     | refine Dl ?_ ?_
     | exact we
     | simp (disch:=omega) only [go_sem,seval,↓reduceIte]
def Ut (x:Inst) (r:Rte):Bool:=(decide (0<=r.typ)&&decide (r.typ<(x.types.length:Int))&&decide (0<=r.start)&&decide (r.start<=4096)&&decide (r.visits.length<=20))&&r.visits.all (Aa x)
theorem F7 (x:Inst) (r:Rte) (ho:x.orders.length<=1048576) (ht:x.types.length<=1048576) (hl:r.visits.length<=1048576):PC 140 [.p (Zv x),.p (Wy r)] (.bool (Ut x r)):=by
 refine Zd Tryz.func140 rfl ZaT ?_;simp (disch:=omega) only [Tryz.f140,go_sem,seval];refine gF ?_ ?_<;>intro h1<;>simp (disch:=omega) only [Sh.out h1,go_sem,seval,↓reduceIte]
 ·simp [Ut];omega
 ·refine gF ?_ ?_<;>intro h2<;>simp (disch:=omega) only [Sh.out h2,go_sem,seval,↓reduceIte]
  ·simp [Ut];omega
  ·refine gF ?_ ?_<;>intro h3<;>simp (disch:=omega) only [Sh.out h3,go_sem,seval,↓reduceIte]
   ·simp [Ut];omega
   ·refine gF ?_ ?_<;>intro h4<;>simp (disch:=omega) only [Sh.out h4,go_sem,seval,↓reduceIte]
    ·simp [Ut];omega
    ·refine cD ?_ ?_<;>intro h5<;>simp (disch:=omega) only [Sh.out h5,go_sem,seval]
     ·simp [Ut];omega
     ·refine Zl [2,3] (fun k:Nat=> [(5,.p (.int .i64 k))]) (fun _=> [Zi x,Xu r]) (fun k=>k<=r.visits.length/\ ∀j,j<k->Aa x (nth r.visits j)=true) (fun k=>r.visits.length-k) 0 Zb (Weak.mk ?_) ?_
      ·simp (disch:=omega) only [Zi,Xu,go_sem,seval]
      ·rintro k ⟨hk,hno⟩;refine K4 ?_;refine cD ?_ ?_<;>intro h<;>simp (disch:=omega) only [Sh.out h,go_sem,seval,↓reduceIte]
       ·have hk2:k<r.visits.length:=Za
        refine X2 [10,11] 12 mixed Ze Ze Ze Zb (Zc ?_);refine U7 (Oq x (nth r.visits k) ho) (Zc ?_);refine Xr 10 _ _ Ze (by refine Zc ?_;exact ⟨rfl,rfl⟩) ?_;refine Zc ?_;refine Xr 11 _ _ Ze (by refine Zc ?_;exact ⟨rfl,rfl⟩) (Wv ?_);refine Zc ?_;refine ZR ?_ ?_<;>intro h6
        ·grind [Zt,Ut]
        ·exact ⟨k+1,⟨Za,Zr.2 ⟨hno,by grind⟩⟩,Za,wk⟩
       ·have hkl:k=r.visits.length:=Za
        subst hkl
        have:r.visits.all (Aa x)=true:=by
         rw [ZA];intro v hv;obtain ⟨j,hj,rfl⟩:=ZN.1 hv
         grind [Zh]
        grind [Ut]
@[go_sem high] theorem Zlu {k k':IntKind} {a b:Int} :IF false [.p (.int k a),.p (.int k' b)]=some (.int k (max a b)):=by
 grind [IF]
theorem PH {l:List Tim} {m:Tim} {d:Int} {b:Bool} :Ss (l++ [m]) l.length d b=l++ [{ m with dep:=d,rest:=b }]:=by
 grind [Zh,Ss]
theorem dA {x:Inst} {t:Typ} {sp:List Stp} {k:Nat} {d s m:Int} {h:She} (hk:k<sp.length) (ho:(nth sp k).opn<=(nth sp k).cls) (hm:h.miles=m) :
  (JC x t ⟨V7 t sp k,d,s,m⟩ (nth sp k).place (nth sp k).cls 14).2=(WB t sp k (Y2 x t sp k d) d s h).2 /\
  ((WB t sp k (Y2 x t sp k d) d s h).2=0->(JC x t ⟨V7 t sp k,d,s,m⟩ (nth sp k).place (nth sp k).cls 14).1=⟨(nth sp k).place,(Y2 x t sp k d).1,s+(Y2 x t sp k d).1-d,m+(Y2 x t sp k d).2.1⟩ /\
   (WB t sp k (Y2 x t sp k d) d s h).1=⟨max (Y2 x t sp k d).1 (nth sp k).opn+(nth sp k).serv,s+(Y2 x t sp k d).1-d,{ h with times_c:=false,times:=h.times++ [⟨(Y2 x t sp k d).1,max (Y2 x t sp k d).1 (nth sp k).opn,0,false⟩],miles:=m+(Y2 x t sp k d).2.1 }⟩):=by
 have hne: ¬k=sp.length:=Za
 have e:WY x.net t.prof (V7 t sp k) (nth sp k).place d=Y2 x t sp k d:=by simp [Y2,OM,hne]
 unfold JC WB
 grind
theorem dB {x:Inst} {t:Typ} {sp:List Stp} {d s m:Int} {h:She} (hm:h.miles=m) :
  (JC x t ⟨V7 t sp sp.length,d,s,m⟩ t.dst t.cls 15).2=(WB t sp sp.length (Y2 x t sp sp.length d) d s h).2 /\
  ((WB t sp sp.length (Y2 x t sp sp.length d) d s h).2=0->(JC x t ⟨V7 t sp sp.length,d,s,m⟩ t.dst t.cls 15).1=⟨t.dst,(Y2 x t sp sp.length d).1,s+(Y2 x t sp sp.length d).1-d,m+(Y2 x t sp sp.length d).2.1⟩ /\
   (WB t sp sp.length (Y2 x t sp sp.length d) d s h).1=⟨(Y2 x t sp sp.length d).1,s+(Y2 x t sp sp.length d).1-d,{ h with fin:=(Y2 x t sp sp.length d).1,miles:=m+(Y2 x t sp sp.length d).2.1 }⟩):=by
 have e:WY x.net t.prof (V7 t sp sp.length) t.dst d=Y2 x t sp sp.length d:=by simp [Y2,OM]
 unfold JC WB
 grind
def Zdw (s:StD):AM.Obj:= .cells [.p (.int .i64 s.place),.p (.int .i64 s.time),.p (.int .i64 s.driven),.p (.int .i64 s.miles)]
def Jq (t:Typ) (sp:List Stp) (k:Nat) (L:Lab) (b:Bool):StD:=⟨V7 t sp k,ZK t L b,WU L b,L.she.miles⟩
theorem Zk0 {g:FuncId} {args:List V} {a c:PV} {H:List AM.Obj} {K:V->List AM.Obj->Prop} (h:ACalls Tryz.prog g args [] fun x H'=> ∃b:PV,x= .tup [.p a,.p b,.p c]/\H'= []) (k: ∀b:PV,K (.tup [.p a,.p b,.p c]) H) (ha:Xn 0 args=true:=by rfl):ACalls Tryz.prog g args H K :=
 (h.behind ha H).mono fun x H' hq=>by
  obtain ⟨y,H1,⟨b,rfl,rfl⟩,rfl,rfl⟩:=hq
  grind [shV,shVs]
theorem Yf {x:Inst} {l:List Vis} :(ZO x l).length=l.length:=by simp [ZO]
theorem GE {x:Inst} {l:List Vis} {k:Nat} (h:k<l.length):nth (ZO x l) k=Xj x (nth l k):=by
 grind [Zh,ZO]
theorem US {P Q:Prop} (h:Q) (e:Q->P:=by intro h;simp (disch:=omega) only [Zq,Zn,Z1,ZW,go_sem,seval];exact h):P:=e h
theorem uA (x:Inst) (r:Rte) (rests:List Bool) (c:Bool) (hok:TrpOk x (ZE x r) (ZO x r.visits)) (ho:x.orders.length<=1048576) (ht:x.types.length<=1048576) (hne:0<r.visits.length) (hp:Ut x r=true) (hl:rests.length=r.visits.length+1) :
  ACalls Tryz.prog 182 [.p (Zv x),.p (Wy r),.p (.list c (rests.map eB))] [] fun y H'=> ∃d:PV,y= .tup [.p (Fu (Xc x (ZE x r) (ZO x r.visits) 0 (labF (ZE x r) r.start) rests).1.she),.p d,.p (.int .i64 (Xc x (ZE x r) (ZO x r.visits) 0 (labF (ZE x r) r.start) rests).2)]/\H'= []:=by
 have hp2:=hp;simp only [Ut,ZH,Zs] at hp2;obtain ⟨⟨⟨⟨⟨p1,p2⟩,p3⟩,p4⟩,p5⟩,p6⟩:=hp2;have hvis: ∀k,k<r.visits.length->Aa x (nth r.visits k)=true:=fun k hk=>ZA.1 p6 _ (Zt hk)
 have hstop: ∀k,k<r.visits.length->Dd x (nth r.visits k)=nth (ZO x r.visits) k:=fun k hk=>by
  simp_all [Aa,Dd,GE]
 have hti:r.typ.toNat<x.types.length:=Za
 have hopn:=hok.opn;have hrst:=hok.rst;have htd:ZE x r=nth x.types r.typ.toNat:=rfl
 generalize hT:ZE x r=t at *
 have hsl:(ZO x r.visits).length=r.visits.length:=Yf
 generalize hS:ZO x r.visits=sp at *
 refine Zf [26] Tryz.func182 rfl Zbj ?_;simp (disch:=omega) only [Tryz.f182,go_sem,seval];refine (F7 x r ho ht Za).use (Zc ?_);rw [hp];refine Zc ?_;refine cD ?_ ?_<;>intro h0<;>simp (disch:=omega) only [Sh.out h0,<- htd,go_sem,seval,↓reduceIte]
 ·omega
 ·refine X2 [13] 14 mixed Ze Ze Ze Zb (Zc ?_);refine Zo (NU t ⟨t.src,max t.opn r.start,0,0⟩ (nth rests 0) (by grind)) (Zc ?_);refine Xr 13 _ _ Ze (by refine Zc ?_;exact ⟨rfl,rfl⟩) (Wv ?_);refine Zc ?_;refine X2 [6] 7 mixed Ze Ze Ze Zb (Zc ?_);refine Xr 6 _ _ Ze (by refine Zc ?_;exact ⟨rfl,rfl⟩) (Wv ?_);refine Zc ?_;have hL0:LabR 0 (labF t r.start):=⟨by grind [labF],by simp [labF],by simp [labF,zShe]⟩
  have hS0:Gf t ⟨t.src,max t.opn r.start,0,0⟩ (nth rests 0)=Jq t sp 0 (labF t r.start) (nth rests 0):=by
   simp only [Gf,Jq,V7,ZK,WU,labF,zShe,if_true]
   split<;>rfl
  simp (disch:=omega) only [hS0,go_sem,seval]
  refine Z0 [26] [2,3,4,6,9,10,11] (fun q:Nat×Lab×List Int=> [(12,.sl 7 0 q.2.2.length q.2.2.length),(13,.p (.int .i64 q.1))])
   (fun q=> [Zi x,Xu r,.cells [.p (.bool false),.p (.int .i64 0),.p (.list true []),.p (.int .i64 0),.p (.int .i64 0)],Yh t,Zdw (Jq t sp q.1 q.2.1 (nth rests q.1)),
    .cells [.p (.bool (X1 q.1 (ZK t q.2.1 (nth rests q.1)) (nth rests q.1) q.2.1.she).rest),.p (.int .i64 (X1 q.1 (ZK t q.2.1 (nth rests q.1)) (nth rests q.1) q.2.1.she).dep),.sl 6 0 (X1 q.1 (ZK t q.2.1 (nth rests q.1)) (nth rests q.1) q.2.1.she).times.length (X1 q.1 (ZK t q.2.1 (nth rests q.1)) (nth rests q.1) q.2.1.she).times.length,.p (.int .i64 0),.p (.int .i64 0)],
    .elems 4 ((X1 q.1 (ZK t q.2.1 (nth rests q.1)) (nth rests q.1) q.2.1.she).times.map eTim),.elems 1 (q.2.2.map eI)])
   (fun q=>q.1<=r.visits.length/\Xc x t sp 0 (labF t r.start) rests=Xc x t sp q.1 q.2.1 (rests.drop q.1)/\LabR q.1 q.2.1/\q.2.1.she.times.length=q.1/\q.2.1.she.fin=0/\(0<q.1->q.2.1.she.times_c=false)/\q.2.2.length=q.1) (fun q=>r.visits.length-q.1) (0,labF t r.start,[])
   ⟨Zb,Zb,hL0,by rfl,by rfl,Zb,Zb⟩ ((Weak.nilC (o:=5) (j:=2) 4 rfl rfl Zb).trans (Weak.ofNil 12 1 rfl Zb (Weak.mk ?_))) ?_
  ·simp (disch:=omega) only [Zi,Xu,Yh,Zdw,Jq,V7,X1,labF,zShe,Zn,ZF,Z1,ZW,ZL,Zz,go_sem,seval]
  ·rintro ⟨k,L,ds⟩ ⟨hk,hrun,hL,hlen,hfin,hclip,hds⟩;simp only at hk hrun hL hlen hfin hclip hds
   have hmlen:(X1 k (ZK t L (nth rests k)) (nth rests k) L.she).times.length=k:=by grind [AK]
   have hd:=KB hok hL (nth rests k);have hs:=GC hL (nth rests k);have hg:=Ld hok hL (nth rests k);have hmi:=hL.mil
   generalize hm:X1 k (ZK t L (nth rests k)) (nth rests k) L.she=m at *
   have hmm:m.miles=L.she.miles:=by rw [<- hm,KK]
   have hmf:m.fin=0:=by grind [HP]
   have hdrop:rests.drop k=nth rests k::rests.drop (k+1):=by grind [VF,Zh]
   have hnx:nxtF x t sp k L (nth rests k)=WB t sp k (Y2 x t sp k (ZK t L (nth rests k))) (ZK t L (nth rests k)) (WU L (nth rests k)) m:=by rw [nxtF,hm]
   rw [hdrop,Xc] at hrun;simp (disch:=omega) only [Zi,Xu,Yh,Zdw,go_sem,seval];refine cD ?_ ?_<;>intro h<;>simp (disch:=omega) only [Sh.out h,go_sem,seval,↓reduceIte]
   ·have hk2:k<r.visits.length:=Za
    have hsp:=hok.stp _ (ZZ (show k<sp.length by omega));refine X2 [10,11] 12 mixed Ze Ze Ze Zb (Zc ?_);refine U7 (Oq x (nth r.visits k) ho) (Zc ?_);refine Xr 10 _ _ Ze (by refine Zc ?_;exact ⟨rfl,rfl⟩) ?_;refine Zc ?_;refine Xr 11 _ _ Ze (by refine Zc ?_;exact ⟨rfl,rfl⟩) (Wv ?_);simp (disch:=omega) only [hstop k hk2,go_sem,seval];obtain ⟨f1,f2⟩:=dA (x:=x) (t:=t) (d:=ZK t L (nth rests k)) (s:=WU L (nth rests k)) (h:=m) (show k<sp.length by omega) hsp.2.1 hmm
    have he2:WY x.net t.prof (V7 t sp k) (nth sp k).place (ZK t L (nth rests k))=Y2 x t sp k (ZK t L (nth rests k)):=by
     grind [Y2,OM]
    refine Yi (Oo x t (Jq t sp k L (nth rests k)) (nth sp k).place (nth sp k).cls 14 hok.net ?_ ?_ ?_ ?_) ?_
    ·grind [Jq]
    ·grind [Jq,eA]
    ·grind [Jq,eA]
    ·grind [Jq,eA]
    have f1':(JC x t (Jq t sp k L (nth rests k)) (nth sp k).place (nth sp k).cls 14).2=(nxtF x t sp k L (nth rests k)).2:=by rw [hnx,<- f1];rfl
    refine Zc ?_;rw [f1'];refine cD ?_ ?_<;>intro h3<;>simp (disch:=omega) only [Sh.out h3,go_sem,seval,↓reduceIte]
    ·rw [if_neg h3] at hrun;rw [hrun];simp only [WW,zShe];exact ⟨_,_,Weak.mk (by simp (disch:=omega) only [Zn,go_sem,seval]),.list true [],rfl,rfl⟩
    ·have h3':(nxtF x t sp k L (nth rests k)).2=0:=Z5.1 h3;rw [if_pos h3'] at hrun;have hL':=LB hok Za hL h3';rw [hnx] at h3';obtain ⟨f3,f4⟩:=f2 h3';have f3':(JC x t (Jq t sp k L (nth rests k)) (nth sp k).place (nth sp k).cls 14).1=⟨(nth sp k).place,(Y2 x t sp k (ZK t L (nth rests k))).1,WU L (nth rests k)+(Y2 x t sp k (ZK t L (nth rests k))).1-ZK t L (nth rests k),L.she.miles+(Y2 x t sp k (ZK t L (nth rests k))).2.1⟩:=f3
     have hL2:(nxtF x t sp k L (nth rests k)).1=⟨max (Y2 x t sp k (ZK t L (nth rests k))).1 (nth sp k).opn+(nth sp k).serv,WU L (nth rests k)+(Y2 x t sp k (ZK t L (nth rests k))).1-ZK t L (nth rests k),{ m with times_c:=false,times:=m.times++ [⟨(Y2 x t sp k (ZK t L (nth rests k))).1,max (Y2 x t sp k (ZK t L (nth rests k))).1 (nth sp k).opn,0,false⟩],miles:=L.she.miles+(Y2 x t sp k (ZK t L (nth rests k))).2.1 }⟩:=by grind
     simp (disch:=omega) only [f3',go_sem,seval];refine X2 [13] 14 mixed Ze Ze Ze Zb (Zc ?_);refine Xr 13 _ _ Ze (by refine Zc ?_;exact ⟨rfl,rfl⟩) (Wv ?_);refine Zc ?_
     generalize (nxtF x t sp k L (nth rests k)).1=L2 at *
     have hS1:Gf t ⟨(nth sp k).place,max (Y2 x t sp k (ZK t L (nth rests k))).1 (nth sp k).opn+(nth sp k).serv,WU L (nth rests k)+(Y2 x t sp k (ZK t L (nth rests k))).1-ZK t L (nth rests k),L.she.miles+(Y2 x t sp k (ZK t L (nth rests k))).2.1⟩ (nth rests (k+1))=Jq t sp (k+1) L2 (nth rests (k+1)):=by
      rw [hL2];simp only [Gf,Jq,V7,ZK,WU,Nat.add_sub_cancel,if_neg (show ¬k+1=0 by omega)]
      split<;>rfl
     have hM:X1 (k+1) (ZK t L2 (nth rests (k+1))) (nth rests (k+1)) L2.she= { m with times_c:=false,times:=m.times++ [⟨(Y2 x t sp k (ZK t L (nth rests k))).1,max (Y2 x t sp k (ZK t L (nth rests k))).1 (nth sp k).opn,ZK t L2 (nth rests (k+1)),nth rests (k+1)⟩],miles:=L.she.miles+(Y2 x t sp k (ZK t L (nth rests k))).2.1 } :=by
      have he:L2.she= { m with times_c:=false,times:=m.times++ [⟨(Y2 x t sp k (ZK t L (nth rests k))).1,max (Y2 x t sp k (ZK t L (nth rests k))).1 (nth sp k).opn,0,false⟩],miles:=L.she.miles+(Y2 x t sp k (ZK t L (nth rests k))).2.1 } :=by rw [hL2]
      rw [he,X1,if_neg Za,Nat.add_sub_cancel]
      grind [PH]
     have hd2:=KB hok hL' (nth rests (k+1));refine ZC 8 mixed Ze Ze (Zc ?_);refine Zo (NU t ⟨(nth sp k).place,max (Y2 x t sp k (ZK t L (nth rests k))).1 (nth sp k).opn+(nth sp k).serv,WU L (nth rests k)+(Y2 x t sp k (ZK t L (nth rests k))).1-ZK t L (nth rests k),L.she.miles+(Y2 x t sp k (ZK t L (nth rests k))).2.1⟩ (nth rests (k+1)) (by grind)) (Zc ?_);simp (disch:=omega) only [hS1,go_sem,seval];refine ⟨(k+1,L2,ds++ [L2.since]),⟨Za,hrun,hL',by grind,by grind,by grind,by simp [hds]⟩,Za,Weak.mk ?_⟩
     simp (disch:=omega) only [hM,hmlen,ZG,ZD,ZF,Xs,Zq,Zn,go_sem,seval];exact ⟨rfl,by grind⟩
   ·have hkl:k=sp.length:=Za
    subst hkl;obtain ⟨f1,f2⟩:=dB (x:=x) (t:=t) (sp:=sp) (d:=ZK t L (nth rests sp.length)) (s:=WU L (nth rests sp.length)) (h:=m) hmm
    have he2:WY x.net t.prof (V7 t sp sp.length) t.dst (ZK t L (nth rests sp.length))=Y2 x t sp sp.length (ZK t L (nth rests sp.length)):=by simp [Y2,OM]
    refine Yi (Oo x t (Jq t sp sp.length L (nth rests sp.length)) t.dst t.cls 15 hok.net ?_ ?_ ?_ ?_) ?_
    ·grind [Jq]
    ·grind [Jq,eA]
    ·grind [Jq,eA]
    ·grind [Jq,eA]
    have f1':(JC x t (Jq t sp sp.length L (nth rests sp.length)) t.dst t.cls 15).2=(nxtF x t sp sp.length L (nth rests sp.length)).2:=by rw [hnx,<- f1];rfl
    refine Zc ?_;rw [f1'];have hdl:rests.drop (sp.length+1)= []:=Cw Za;rw [hdl,Xc] at hrun;refine cD ?_ ?_<;>intro h3<;>simp (disch:=omega) only [Sh.out h3,go_sem,seval,↓reduceIte]
    ·rw [if_neg h3] at hrun;rw [hrun];simp only [WW,zShe];exact ⟨_,_,Weak.mk (by simp (disch:=omega) only [Zn,go_sem,seval]),.list true [],rfl,rfl⟩
    ·have h3':(nxtF x t sp sp.length L (nth rests sp.length)).2=0:=Z5.1 h3;rw [if_pos h3'] at hrun;rw [hnx] at h3';obtain ⟨f3,f4⟩:=f2 h3';have f3':(JC x t (Jq t sp sp.length L (nth rests sp.length)) t.dst t.cls 15).1=⟨t.dst,(Y2 x t sp sp.length (ZK t L (nth rests sp.length))).1,WU L (nth rests sp.length)+(Y2 x t sp sp.length (ZK t L (nth rests sp.length))).1-ZK t L (nth rests sp.length),L.she.miles+(Y2 x t sp sp.length (ZK t L (nth rests sp.length))).2.1⟩:=f3;rw [hrun,hnx,f4];simp (disch:=omega) only [f3',go_sem,seval];refine Zp (Weak.fz (o:=6) (by rfl)) ?_
     refine Zp (Weak.fz (o:=7) (by rfl)) (Zg [] _ _ _ _ (US ?_))
     have hmc:m.times_c=false:=by
      grind [X1]
     exact ⟨_,_,Weak.mk (by simp (disch:=omega) only [hmc,go_sem,seval]),.list false (ds.map eI++ [.int .i64 (WU L (nth rests sp.length)+(Y2 x t sp sp.length (ZK t L (nth rests sp.length))).1-ZK t L (nth rests sp.length))]),rfl,rfl⟩
theorem oX (x:Inst) (r:Rte) (rests:List Bool) (c:Bool) (hok:TrpOk x (ZE x r) (ZO x r.visits)) (ho:x.orders.length<=1048576) (ht:x.types.length<=1048576) (hne:0<r.visits.length) (hp:Ut x r=true) (hl:rests.length=r.visits.length+1) :
  PT 141 [.p (Zv x),.p (Wy r),.p (.list c (rests.map eB))] [.p (Fu (Xc x (ZE x r) (ZO x r.visits) 0 (labF (ZE x r) r.start) rests).1.she),.p (.int .i64 (Xc x (ZE x r) (ZO x r.visits) 0 (labF (ZE x r) r.start) rests).2)]:=by
 have cr:=uA x r rests c hok ho ht hne hp hl;generalize (Xc x (ZE x r) (ZO x r.visits) 0 (labF (ZE x r) r.start) rests)=q at cr ⊢;obtain ⟨L,e⟩:=q;refine Zf [] Tryz.func141 rfl ZaU ?_;simp (disch:=omega) only [Tryz.f141,go_sem,seval];refine Zk0 cr fun d=>Zc ?_;exact we
def Eb (l:List Bool) (n:Nat):Option (List Bool):=(Yu (l.drop n)).map (l.take n++ ·)
def PO : Option (List Bool)->PV
 | some l=> .list false (l.map eB)
 | none=> .list true []
theorem KP : ∀m:Nat,Yu (List.replicate m true)=none
 | 0=>rfl
 | m+1=>by rw [KI,Yu,KP m];rfl
theorem HS : ∀(a b r:List Bool),Yu b=some r->Yu (a++b)=some (a++r)
 | [],b,r,h=>h
 | x::a,b,r,h=>by rw [ZL,Yu,HS a b r h];rfl
theorem kX (a:List Bool) (m:Nat):Yu (a++false::List.replicate m true)=some (a++true::List.replicate m false):=by
 grind [HS,Yu,KP]
theorem Oe {o:List Bool} {i:Nat} {b:Bool} :(o.map eB).set i (.bool b)=(o.set i b).map eB:=by rw [V4];rfl
theorem kW (l:List Bool) (c:Bool) (n:Nat) (hn:n<=l.length) (h0:0<l.length) (hl:l.length<=1048576):PT 142 [.p (.list c (l.map eB)),.p (.int .i64 (n:Nat))] [.p (PO (Eb l n)),.p (.bool (Eb l n).isSome)]:=by
 refine Zf [8] Tryz.func142 rfl ZaV ?_;simp (disch:=omega) only [Tryz.f142,go_sem,seval];rw [if_pos ⟨Za,Za⟩];refine Zc ?_;refine Z0 [8] [1] (fun q:Nat×List Bool=> [(6,.sl 0 0 q.2.length q.2.length),(7,.p (.int .i64 ((q.1:Int)-1)))]) (fun q=> [.elems 1 (q.2.map eB)]) (fun q=>n<=q.1/\q.1<=l.length/\q.2=l.take q.1++List.replicate (l.length-q.1) false/\l.drop q.1=List.replicate (l.length-q.1) true) (fun q=>q.1) (l.length,l) (by simp;omega) (Weak.mk ?_) ?_
 ·simp (disch:=omega) only [go_sem,seval]
 ·rintro ⟨j,o⟩ ⟨hj1,hj2,ho,hjt⟩;simp only at hj1 hj2 ho hjt
  have hol:o.length=l.length:=by grind
  refine Zc ?_;refine cD ?_ ?_<;>intro h<;>simp (disch:=omega) only [Sh.out h,go_sem,seval,↓reduceIte]
  ·obtain ⟨i,rfl⟩: ∃i,j=i+1:=⟨j-1,Za⟩
   have hij:(((i+1:Nat):Int)-1)=(i:Int):=Za
   have hat:nth o i=nth l i:=by
    grind [Zh]
   have G6:l.drop i=nth l i::List.replicate (l.length-(i+1)) true:=by
    grind [VF,Zh]
   have hio:i<o.length:=Za
   simp (disch:=first | omega | (simp only [ZD,ZF,ZG,ZY,Xh,XI]<;>omega)) only [Int.add_sub_cancel,Vz,hat,hio,go_sem,seval,↓reduceIte];refine cD ?_ ?_<;>intro h2<;>simp (disch:=omega) only [Sh.out h2,go_sem,seval]
   ·have hf:nth l i=false:=by grind
    have hres:Eb l n=some (o.set i true):=by
     rw [hf] at G6
     have e:l.drop n=(l.drop n).take (i-n)++false::List.replicate (l.length-(i+1)) true:=by
      rw [<- G6,show l.drop i=(l.drop n).drop (i-n) by simp_all,CC]
     rw [Eb,e,kX,ho];simp only [AB,Qk]
     have e2:l.take (i+1)=l.take n++(l.drop n).take (i-n)++ [nth l i]:=by
      rw [X0 Za,Zh Za]
      congr 1
      have:l.take i=l.take (n+(i-n)):=by congr 1;omega
      grind
     rw [e2,hf]
     have el:(l.take n++(l.drop n).take (i-n)).length=i:=by simp;omega
     rw [J6 (l.take n++(l.drop n).take (i-n)),Aq _ _ Za,el];simp
    rw [hres];simp (disch:=first | omega | (simp only [ZD,ZF,ZG,ZY,Xh,XI]<;>omega)) only [Oe,go_sem,seval,↓reduceIte];refine Zp (Weak.fz (o:=0) (by rfl)) ?_;refine Zg [] _ _ _ _ ?_;simp (disch:=omega) only [Zq,Zn,ZW,go_sem,seval];simp only [U0,if_true];exact we (by simp (disch:=omega) only [PO,J5,go_sem,seval])
   ·have hf:nth l i=true:=by grind
    simp (disch:=first | omega | (simp only [ZD,ZF,ZG,ZY,Xh,XI]<;>omega)) only [Oe,go_sem,seval];refine ⟨(i,o.set i false),⟨Za,Za,?_,?_⟩,Za,Weak.mk (by simp (disch:=first | omega | (simp only [ZD,ZF,ZG,ZY,Xh,XI]<;>omega)) only [U0,go_sem,seval])⟩
    ·grind
    grind
  ·have hjn:j=n:=Za
   have hres:Eb l n=none:=by grind [Eb,KP]
   rw [hres];exact we (by simp (disch:=omega) only [PO,Aw,go_sem,seval])
theorem aX {r q:List Bool} :Eb (r++q) r.length=(Yu q).map (r++ ·):=by simp [Eb]
theorem bI {l:List Bool} :PO (some l)= .list false (l.map eB):=rfl
theorem bH : PO none= .list true []:=rfl
def He (b:Option Lab):She:=match b with | some L=>L.she | none=>zShe
def Hb (r:List Bool) (cur:Option (List Bool)):List (List Bool):=match cur with | some q=>(YV q).map (r++ ·) | none=> []
theorem DM {r s:List Bool} :Hb r (some s)=(r++s)::Hb r (Yu s):=by
 grind [Hb,fromB_next]
theorem N1 {x:Inst} {t:Typ} {sp:List Stp} : ∀(bs:List Bool) (k:Nat) (L:Lab),¬(Xc x t sp k L bs).2=0->(Xc x t sp k L bs).1=WW
 | [],k,L,h=>by simp [Xc] at h
 | b::bs,k,L,h=>by
  rw [Xc] at h ⊢
  split
  ·rename_i c;rw [if_pos c] at h;exact N1 bs _ _ h
  ·rfl
theorem fT (x:Inst) (r:Rte) (hok:TrpOk x (ZE x r) (ZO x r.visits)) (ho:x.orders.length<=1048576) (ht:x.types.length<=1048576) (hne:0<r.visits.length) (hp:Ut x r=true) (hl:r.rests.length<=r.visits.length+1) :
  PT 91 [.p (Zv x),.p (Wy r)] [.p (Fu (Xv x r).1),.p (.int .i64 (Xv x r).2)]:=by
 have hsl:(ZO x r.visits).length=r.visits.length:=Yf;have hp2:=hp;simp only [Ut,ZH,Zs] at hp2;have hv20:=hp2.1.2;have hrun:=fun rests (c:Bool) (h:rests.length=r.visits.length+1)=>oX x r rests c hok ho ht hne hp h;have hopt:=fun bs=>Yw (x:=x) (t:=ZE x r) (sp:=ZO x r.visits) bs 0 (labF (ZE x r) r.start);unfold Xv Yn
 generalize hS:ZO x r.visits=sp at *
 generalize ZE x r=t at *
 generalize labF t r.start=L0 at *
 refine Zf [5,6] Tryz.func91 rfl wR ?_;simp (disch:=omega) only [Tryz.f91,go_sem,seval];refine (F7 x r ho ht Za).use (Zc ?_);rw [hp];refine Zc ?_;refine cD ?_ ?_<;>intro h0<;>simp (disch:=omega) only [Sh.out h0,go_sem,seval,↓reduceIte]
 ·omega
 ·refine YI (IQ 3 rfl rfl (Zc ?_));refine ⟨_,_,NL (e:=4) rfl Tryz.underlying40 Ze rfl rfl rfl ?_ ?_ ?_,?_⟩
  ·simp
  ·simp;omega
  ·intro q hq;obtain ⟨b,_,rfl⟩:=XC.1 hq
   rfl
  ·have hpl:(YQ r.rests (sp.length+1)).length=r.visits.length+1:=by simp [YQ];omega
   have hpad:r.rests.map eB++(PV.bool false::List.replicate r.visits.length (PV.bool false)).drop (r.rests.map eB).length=(YQ r.rests (sp.length+1)).map eB:=by
    rw [YQ,Xs,<- KI,List.drop_replicate,Av,hsl,ZY];rfl
   simp only [Z1,ZW];rw [hpad];have h0r:=hopt (YQ r.rests (sp.length+1))
   have cn: ∀s:List Bool,(r.rests++s).length=r.visits.length+1->PT 142 [.p (.list false ((r.rests++s).map eB)),.p (.int .i64 (r.rests.length:Nat))] [.p (PO ((Yu s).map (r.rests++ ·))),.p (.bool ((Yu s).map (r.rests++ ·)).isSome)]:=fun s hs=>by
    grind [kW,aX]
   have e1:(Xc x t sp 0 L0 (YQ r.rests (sp.length+1))).1.she=He (Wc (XA x t sp) 0 L0 (YQ r.rests (sp.length+1))):=by
    rw [h0r]
    split
    ·rfl
    ·rename_i c;rw [N1 _ _ _ c];rfl
   have e2:decide ((Xc x t sp 0 L0 (YQ r.rests (sp.length+1))).2=0)=(Wc (XA x t sp) 0 L0 (YQ r.rests (sp.length+1))).isSome:=by
    grind
   have hrp:=hrun (YQ r.rests (sp.length+1)) false hpl;have hall:XD r.rests (sp.length+1)=Hb r.rests (some (List.replicate (sp.length+1-r.rests.length) false)):=rfl;refine Zp (Weak.fz (o:=3) (by rfl)) (Zg [] _ _ _ _ (US ?_));rw [if_pos hpl];refine Yi hrp (Zc ?_);refine Yi (cn (List.replicate (sp.length+1-r.rests.length) false) hpl) ?_;simp (disch:=omega) only [e1,e2,go_sem,seval]
   have hfm:W4 Wh none ((XD r.rests (sp.length+1)).filterMap (Wc (XA x t sp) 0 L0))=W4 Wh (Wc (XA x t sp) 0 L0 (YQ r.rests (sp.length+1))) ((Hb r.rests (Yu (List.replicate (sp.length+1-r.rests.length) false))).filterMap (Wc (XA x t sp) 0 L0)):=by
    rw [hall,DM,List.filterMap_cons];rw [show r.rests++List.replicate (sp.length+1-r.rests.length) false=YQ r.rests (sp.length+1) from rfl]
    cases Wc (XA x t sp) 0 L0 (YQ r.rests (sp.length+1)) with
    | none=>rfl
    | some L=>rfl
   clear hall;generalize W4 Wh none ((XD r.rests (sp.length+1)).filterMap (Wc (XA x t sp) 0 L0))=res at hfm ⊢;generalize (Xc x t sp 0 L0 (YQ r.rests (sp.length+1))).2=err0
   refine Zl [2,3,4,8,9] (fun q:Option (List Bool)×Option Lab=> [(7,.p (PO (q.1.map (r.rests++ ·)))),(10,.p (.bool q.2.isSome)),(11,.p (.bool (q.1.map (r.rests++ ·)).isSome))])
    (fun q=> [Zi x,Xu r,.cells [.p (.bool false),.p (.int .i64 0),.p (.list true []),.p (.int .i64 0),.p (.int .i64 0)],.dead,.cells [.p (.bool (He q.2).rest),.p (.int .i64 (He q.2).dep),.p (.list (He q.2).times_c ((He q.2).times.map eTim)),.p (.int .i64 (He q.2).fin),.p (.int .i64 (He q.2).miles)]])
    (fun q=>res=W4 Wh q.2 ((Hb r.rests q.1).filterMap (Wc (XA x t sp) 0 L0))/\ ∀s,q.1=some s->s.length=sp.length+1-r.rests.length) (fun q=>(Hb r.rests q.1).length)
    (Yu (List.replicate (sp.length+1-r.rests.length) false),Wc (XA x t sp) 0 L0 (YQ r.rests (sp.length+1))) ⟨hfm,fun s hs=>by have:=fromB_next.nlen _ _ hs;grind⟩ (Weak.mk ?_) ?_
   ·simp (disch:=omega) only [Zi,Xu,go_sem,seval]
   ·rintro ⟨cur,b⟩ ⟨hR,hcl⟩;simp only at hR hcl
    cases cur with
    | none =>
     simp only [Hb,List.filterMap_nil] at hR;simp (disch:=omega) only [Option.map_none,Aw,bH,Zi,Xu,go_sem,seval]
     cases b with
     | none =>
      rw [W4] at hR;subst hR;simp (disch:=omega) only [Aw,Vj,go_sem,seval];exact we (by simp (disch:=omega) only [zShe,Zn,go_sem,seval])
     | some m =>
      rw [W4] at hR;subst hR;simp (disch:=omega) only [J5,YD,He,go_sem,seval];exact we
    | some s =>
     have hsl2:=hcl s rfl;rw [DM,List.filterMap_cons,hopt] at hR
     have hmu:(Hb r.rests (Yu s)).length<(Hb r.rests (some s)).length:=by rw [DM];simp
     have hnl: ∀s',Yu s=some s'->s'.length=sp.length+1-r.rests.length:=fun s' hs'=>by grind [fromB_next.nlen]
     have hlen:(r.rests++s).length=r.visits.length+1:=by simp;omega
     have hr1:=hrun (r.rests++s) false hlen;have cn1:=cn s hlen;rw [Xs] at hr1 cn1;simp (disch:=omega) only [AB,J5,bI,Zi,Xu,go_sem,seval];generalize Xc x t sp 0 L0 (r.rests++s)=g at hR hr1;obtain ⟨Lg,eg⟩:=g;simp only at hR hr1;refine Yi hr1 (Zc ?_);refine gT ?_ ?_<;>intro h1<;>simp (disch:=omega) only [Sh.out h1,go_sem,seval,↓reduceIte]
     ·subst h1
      cases b with
      | none =>
       simp (disch:=omega) only [Aw,Vj,go_sem,seval];refine Yi cn1 (Zc ?_);exact ⟨(Yu s,some Lg),⟨hR,hnl⟩,hmu,Weak.mk (by simp (disch:=omega) only [He,J5,go_sem,seval])⟩
      | some m =>
       simp (disch:=omega) only [J5,YD,He,go_sem,seval];refine cD ?_ ?_<;>intro h2<;>simp (disch:=omega) only [Sh.out h2,go_sem,seval,↓reduceIte]
       ·refine Yi cn1 ?_;refine Zc ?_;exact ⟨(Yu s,some Lg),⟨by rw [hR];simp only [if_true,W4,Wh,h2],hnl⟩,hmu,Weak.mk (by simp (disch:=omega) only [J5,go_sem,seval])⟩
       ·refine Yi cn1 ?_;refine Zc ?_;exact ⟨(Yu s,some m),⟨by rw [hR];simp only [if_true,W4,Wh,h2,YE],hnl⟩,hmu,Weak.mk (by simp (disch:=omega) only [J5,go_sem,seval])⟩
     ·rw [if_neg h1] at hR;refine Yi cn1 (Zc ?_);exact ⟨(Yu s,b),⟨hR,hnl⟩,hmu,wk⟩
def eR (p:Bool×List Int):PV:= .list p.1 (p.2.map eI)
@[go_sem] theorem Zp2 (p:Bool×List Int):eR p= .list p.1 (p.2.map eI):=Zk rfl rfl
theorem iI (L:List (Bool×List Int)) (c:Bool) (d:Nat) (hd:d<=3) (hL:L.length<=1048576) (h: ∀p∈L,p.2.length=d):PC 227 [.p (.list c (L.map eR)),.p (.int .i64 (d:Nat))] (.bool true):=by
 refine Zd Tryz.func227 rfl ZbI ?_
 have e1: ¬(d:Int)<0:=Za
 have e2: ¬(3:Int)<d:=Za
 simp (disch:=omega) only [Tryz.f227,e1,e2,go_sem,seval];refine Zl [0,1] (fun k:Nat=> [(5,.p (.int .i64 k))]) (fun _=> []) (fun k=>k<=L.length) (fun k=>L.length-k) 0 Zb (Weak.mk ?_) ?_
 ·simp (disch:=omega) only [go_sem,seval,↓reduceIte]
 ·intro k hk;refine Zc ?_;refine cD ?_ ?_<;>intro h1<;>simp (disch:=omega) only [Sh.out h1,go_sem,seval,↓reduceIte]
  ·have hk2:k<L.length:=Za
   have hp:=h _ (Zt hk2);simp (disch:=omega) only [hp,go_sem,seval];exact ⟨k+1,Za,Za,wk⟩
def En (L:List (Bool×List Int)) (k j:Nat):Int:=((L.take k).map fun p=>nth p.2 j).sum
theorem Hq {L:List (Bool×List Int)} {k j:Nat} (h:k<L.length):En L (k+1) j=En L k j+nth (nth L k).2 j:=by
 grind [En,X0,Zh]
theorem MM {L:List (Bool×List Int)} {d j:Nat} (h: ∀p∈L,p.2.length=d/\ ∀n∈p.2,0<=n/\n<=1000) (hj:j<d): ∀k,k<=L.length->0<=En L k j/\En L k j<=1000*(k:Int)
 | 0,_=>by simp [En]
 | k+1,hk=>by
  have ih:=MM h hj k Za;obtain ⟨h1,h2⟩:=h _ (Zt (show k<L.length by omega));have:=h2 _ (Zt (show j<(nth L k).2.length by omega))
  grind [Hq]
def uT (L:List (Bool×List Int)) (d:Nat):List Int:=(List.range d).map fun j=>En L L.length j
theorem uS (L:List (Bool×List Int)) (c:Bool) (d:Nat) (hd:1<=d/\d<=3) (hL:L.length<=1048576) (h: ∀p∈L,p.2.length=d/\ ∀n∈p.2,0<=n/\n<=1000) :
  PT 213 [.p (.list c (L.map eR)),.p (.int .i64 (d:Nat))] [.p (.list false ((uT L d).map eI)),.p (.int .i64 0)]:=by
 refine Zf [13] Tryz.func213 rfl Zby ?_;simp (disch:=omega) only [Tryz.f213,go_sem,seval];refine (iI L c d hd.2 hL fun p hp=>(h p hp).1).use (Zc ?_);refine Z0 [13] [0,1] (fun q:Nat×List Int=> [(6,.sl 0 0 q.2.length q.2.length),(7,.p (.int .i64 q.1))]) (fun q=> [.elems 1 (q.2.map eI)]) (fun q=>q.1<=d/\q.2=(List.range q.1).map fun j=>En L L.length j) (fun q=>d-q.1) (0,[]) Zb (Weak.ofNil 6 1 rfl Zb (Weak.mk ?_)) ?_
 ·simp (disch:=omega) only [Zn,ZF,go_sem,seval,↓reduceIte]
 ·rintro ⟨j,o⟩ ⟨hj,ho⟩;simp only at hj ho
  have hol:o.length=j:=by rw [ho];simp
  refine Zc ?_;refine cD ?_ ?_<;>intro h1<;>simp (disch:=omega) only [Sh.out h1,go_sem,seval,↓reduceIte]
  ·have hj2:j<d:=Za
   refine Zl [0,1,6,7] (fun k:Nat=> [(8,.p (.int .i64 (En L k j))),(9,.p (.int .i64 k))]) (fun _=> [.elems 1 (o.map eI)]) (fun k=>k<=L.length) (fun k=>L.length-k) 0 Zb (Weak.mk ?_) ?_
   ·simp (disch:=omega) only [En,Ql,Zn,List.sum_nil,go_sem,seval,↓reduceIte]
   ·intro k hk;refine Zc ?_;refine cD ?_ ?_<;>intro h2<;>simp (disch:=omega) only [Sh.out h2,go_sem,seval,↓reduceIte]
    ·have hk2:k<L.length:=Za
     obtain ⟨g1,g2⟩:=h _ (Zt hk2);have g3:=g2 _ (Zt (show j<(nth L k).2.length by omega));have g4:=MM h hj2 k hk;have g5:=Hq (j:=j) hk2
     have g6:j<(nth L k).2.length:=Za
     refine Zc ?_;exact ⟨k+1,Za,Za,Weak.mk (by simp (disch:=omega) only [g5,go_sem,seval])⟩
    ·have hkl:k=L.length:=Za
     subst hkl;refine ⟨(j+1,o++ [En L L.length j]),⟨Za,by grind [Ye]⟩,Za,Weak.mk (by simp (disch:=omega) only [ZG,ZD,ZF,Xs,Zq,Zn,go_sem,seval])⟩
  ·have hjd:j=d:=Za
   subst hjd;refine Zp (Weak.fz (o:=0) (by rfl)) ?_;refine Zg [] _ _ _ _ ?_;simp (disch:=omega) only [Zq,Zn,ZW,go_sem,seval];rw [uT,<- ho];exact we
theorem iQ (a b:List Int) (c d:Bool) (ha:a.length<=1048576) (hb:b.length<=1048576):PC 139 [.p (.list c (a.map eI)),.p (.list d (b.map eI))] (.bool (VV a b)):=by
 refine Zd Tryz.func139 rfl ZaS ?_;simp (disch:=omega) only [Tryz.f139,go_sem,seval];refine cD ?_ ?_<;>intro h1<;>simp (disch:=omega) only [Sh.out h1,go_sem,seval]
 ·grind [VV]
 ·have h1':a.length=b.length:=Za
  refine Zl [0,1] (fun k:Nat=> [(5,.p (.int .i64 k))]) (fun _=> []) (fun k=>k<=a.length/\ ∀j,j<k->nth a j<=nth b j) (fun k=>a.length-k) 0 Zb (Weak.mk ?_) ?_
  ·simp (disch:=omega) only [go_sem,seval,↓reduceIte]
  ·rintro k ⟨hk,hno⟩;refine Zc ?_;refine cD ?_ ?_<;>intro h2<;>simp (disch:=omega) only [Sh.out h2,go_sem,seval,↓reduceIte]
   ·have hk2:k<a.length:=Za
    refine Xe (Zc ?_);refine cD ?_ ?_<;>intro h3<;>simp (disch:=omega) only [Sh.out h3,go_sem,seval,↓reduceIte]
    ·grind [VV]
    ·exact ⟨k+1,⟨Za,Zr.2 ⟨hno,Za⟩⟩,Za,wk⟩
   ·have hkl:k=a.length:=Za
    simp_all [VV]
theorem iD (x:Inst) (ht:x.types.length<=1048576):PC 214 [.p (Zv x)] (.int .i64 (dimsOf x.types)):=by
 refine Zd Tryz.func214 rfl Zbz ?_;simp (disch:=omega) only [Tryz.f214,go_sem,seval];refine cD ?_ ?_<;>intro h1<;>simp (disch:=omega) only [Sh.out h1,go_sem,seval,↓reduceIte]
 ·grind [dimsOf]
 simp_all [dimsOf]
structure LdOk (x:Inst):Prop where
 ord:x.orders.length<=10
 typ:x.types.length<=1048576
 dim:1<=dimsOf x.types/\dimsOf x.types<=3
 load: ∀o∈x.orders,(o.load.length:Int)=dimsOf x.types/\ ∀n∈o.load,0<=n/\n<=1000
theorem QG {x:Inst} (h:InstOk x):LdOk x:=by
 have ht:=h.types.1;simp only [rng,Zs] at ht;have ho:=h.orders
 have h0:0<x.types.length:=Za
 have hcap:=h.types.2 0 h0;unfold Ux at hcap;obtain ⟨⟨⟨⟨⟨⟨⟨⟨_,_⟩,_⟩,_⟩,hcap⟩,_⟩,_⟩,_⟩,_⟩:=hcap;simp only [Vy,ZH,Zs,rng] at hcap;refine ⟨ho.1,Za,Za,fun o hm=> ?_⟩;obtain ⟨i,hi,rfl⟩:=ZN.1 hm;have:=(ho.2 i hi).load;rw [Zh hi] at this
 simp_all [loadOk,rng]
def GV (x:Inst) (l:List Vis) (n k:Nat):List (Bool×List Int):=((List.range k).filter fun i=>EQ x l n i&&hasO l i).map fun i=>((nth x.orders i).load_c,(nth x.orders i).load)
theorem TP {x:Inst} {l:List Vis} {n k:Nat} :GV x l n (k+1)=GV x l n k++if (EQ x l n k&&hasO l k)=true then [((nth x.orders k).load_c,(nth x.orders k).load)] else []:=by
 grind [GV,Ye]
theorem fX {x:Inst} {l:List Vis} {n:Nat} : ∀k,(GV x l n k).length<=k:=fun k=>by
 grind [GV]
theorem qL {x:Inst} {l:List Vis} {n k:Nat} (h:LdOk x) (hk:k<=x.orders.length): ∀p∈GV x l n k,p.2.length=(dimsOf x.types).toNat/\ ∀m∈p.2,0<=m/\m<=1000:=fun p hp=>by
 obtain ⟨i,hi,rfl⟩:=XC.1 hp;have hi2:=ZM.1 (QK.1 hi).1;have:=h.load _ (Zt (show i<x.orders.length by omega))
 grind
theorem fY {x:Inst} {l:List Vis} {n:Nat} :uT (GV x l n x.orders.length) (dimsOf x.types).toNat=Wf x l n:=by
 unfold uT Wf
 grind [En,GV,DX,Kf]
def wZ (x:Inst) (l:List Vis) (n i k:Nat):Bool:=(l.take (min k n)).foldl (fun on v=>if v.order=(i:Int) then !v.drp else on) (decide ((nth x.orders i).pick.place<0))
def Pz (l:List Vis) (i k:Nat):Bool:=(l.take k).any fun v=>decide (v.order=(i:Int))
theorem lF {x:Inst} {l:List Vis} {n i k:Nat} (h:k<l.length):wZ x l n i (k+1)=if (nth l k).order=(i:Int) then (if k<n then !(nth l k).drp else wZ x l n i k) else wZ x l n i k:=by
 grind [wZ,X0,Zh]
theorem aF {l:List Vis} {i k:Nat} (h:k<l.length):Pz l i (k+1)=if (nth l k).order=(i:Int) then true else Pz l i k:=by
 grind [Pz,X0,Zh]
theorem sV {x:Inst} {l:List Vis} {n i:Nat} (h:n<=l.length):wZ x l n i l.length=EQ x l n i:=by
 grind [wZ,EQ]
theorem jR {l:List Vis} {i:Nat} :Pz l i l.length=hasO l i:=by grind [Pz,hasO]
theorem Ts (x:Inst) (l:List Vis) (c:Bool) (n:Nat) (hx:LdOk x) (hl:l.length<=1048576) (hn:n<=l.length) :
  PT 180 [.p (Zv x),.p (.list c (l.map Z8)),.p (.int .i64 (n:Nat))] [.p (.list false ((Wf x l n).map eI)),.p (.int .i64 0)]:=by
 have ho:=hx.ord;refine Zf [15] Tryz.func180 rfl Zbh ?_;simp (disch:=omega) only [Tryz.f180,go_sem,seval];refine Z0 [15] [1,2,3] (fun q:Nat×List (Bool×List Int)=> [(8,.sl 1 0 q.2.length q.2.length),(9,.p (.int .i64 q.1))]) (fun q=> [Zi x,.elems 1 (q.2.map eR)]) (fun q=>q.1<=x.orders.length/\q.2=GV x l n q.1) (fun q=>x.orders.length-q.1) (0,[]) (by simp [GV]) (Weak.ofNil 8 1 rfl Zb (Weak.mk ?_)) ?_
 ·simp (disch:=omega) only [Zi,Zn,ZF,ZL,Zz,go_sem,seval]
 ·rintro ⟨i,o⟩ ⟨hi,hob⟩;simp only at hi hob
  have hol:o.length<=i:=by grind [fX]
  refine Ya ?_;refine cD ?_ ?_<;>intro h1<;>simp (disch:=omega) only [Sh.out h1,go_sem,seval,↓reduceIte]
  ·have hi2:i<x.orders.length:=Za
   refine Zl [1,2,3,8,9] (fun k:Nat=> [(10,.p (.bool (wZ x l n i k))),(11,.p (.bool (Pz l i k))),(12,.p (.int .i64 k))]) (fun _=> [Zi x,.elems 1 (o.map eR)]) (fun k=>k<=l.length) (fun k=>l.length-k) 0 Zb (Weak.mk ?_) ?_
   ·simp (disch:=omega) only [Zi,wZ,Pz,Nat.zero_min,Ql,UJ,List.any_nil,go_sem,seval]
   ·intro k hk;refine Ya ?_;refine cD ?_ ?_<;>intro h2<;>simp (disch:=omega) only [Sh.out h2,go_sem,seval,↓reduceIte]
    ·have hk2:k<l.length:=Za
     have s1:=lF (x:=x) (n:=n) (i:=i) hk2;have s2:=aF (i:=i) hk2;refine ZR ?_ ?_<;>intro h3
     ·rw [if_neg h3] at s1 s2;exact ⟨k+1,Za,Za,Weak.mk (by simp (disch:=omega) only [s1,s2,go_sem,seval])⟩
     ·have h3':=Z5.1 h3;rw [if_pos h3'] at s1 s2;refine ZR ?_ ?_<;>intro h4
      ·rw [if_pos Za] at s1;exact ⟨k+1,Za,Za,Weak.mk (by simp (disch:=omega) only [s1,s2,go_sem,seval])⟩
      ·rw [if_neg Za] at s1;exact ⟨k+1,Za,Za,Weak.mk (by simp (disch:=omega) only [s1,s2,go_sem,seval])⟩
    ·have hkl:k=l.length:=Za
     subst hkl;have s3:=TP (x:=x) (l:=l) (n:=n) (k:=i);rw [sV hn,jR];refine Q1 ?_ ?_<;>intro h5
     ·refine ZR ?_ ?_<;>intro h6
      ·rw [h5,h6,Bool.and_self,if_pos rfl] at s3;exact ⟨(i+1,o++ [((nth x.orders i).load_c,(nth x.orders i).load)]),⟨Za,by grind⟩,Za,Weak.mk (by simp (disch:=omega) only [ZG,ZD,ZF,Xs,Zq,Zn,go_sem,seval])⟩
      ·rw [h5,h6,Bool.and_false,if_neg Zb,Y8] at s3;exact ⟨(i+1,o),⟨Za,by grind⟩,Za,wk⟩
     ·have h5':EQ x l n i=false:=Za
      rw [h5',QI,if_neg Zb,Y8] at s3;exact ⟨(i+1,o),⟨Za,by grind⟩,Za,wk⟩
  ·have hik:i=x.orders.length:=Za
   subst hik
   have hD:dimsOf x.types=((dimsOf x.types).toNat:Int):=by have:=hx.dim;omega
   have hok:=qL (l:=l) (n:=n) hx (ZB _);rw [<- hob] at hok;have hs:=fY (x:=x) (l:=l) (n:=n);rw [<- hob] at hs;refine Zp (Weak.fz (o:=1) (by rfl)) (Zg [] _ _ _ _ (US ?_));refine (iD x hx.typ).use (Zc ?_);rw [hD];refine Yi (uS o false (dimsOf x.types).toNat (by have:=hx.dim;omega) Za hok) (Zc ?_);rw [<- hs];exact we
def oQ (l:List Int):PV:= .list false (l.map eI)
@[go_sem] theorem Zac (l:List Int):oQ l= .list false (l.map eI):=Zk rfl rfl
def QL (x:Inst) (l:List Vis):List (List Int):=(List.range (l.length+1)).map (Wf x l)
theorem aS (x:Inst) (r:Rte) (hx:InstOk x) (hl:r.visits.length<=1048576) (h0:Xg x r.visits=0) (hchk:PC 88 [.p (Zv x),.p (Wy r)] (.int .i64 (Xg x r.visits))) :
  PT 138 [.p (Zv x),.p (Wy r)] [.p (.list false ((QL x r.visits).map oQ)),.p (.int .i64 0)]:=by
 have hd:=QG hx;refine Zf [12] Tryz.func138 rfl ZaR ?_;simp (disch:=omega) only [Tryz.f138,go_sem,seval];refine (hchk).use (Zc ?_);simp (disch:=omega) only [h0,go_sem,seval];refine Z0 [12] [2,3] (fun q:Nat×List (List Int)=> [(7,.sl 2 0 q.2.length q.2.length),(8,.p (.int .i64 q.1))]) (fun q=> [Zi x,Xu r,.elems 1 (q.2.map oQ)]) (fun q=>q.1<=r.visits.length+1/\q.2=(List.range q.1).map (Wf x r.visits)) (fun q=>r.visits.length+1-q.1) (0,[]) Zb (Weak.ofNil 7 1 rfl Zb (Weak.mk ?_)) ?_
 ·simp (disch:=omega) only [Zi,Xu,Zn,ZF,ZL,Zz,go_sem,seval]
 ·rintro ⟨k,o⟩ ⟨hk,ho⟩;simp only at hk ho
  have hol:o.length=k:=by rw [ho];simp
  refine K4 ?_;refine cD ?_ ?_<;>intro h1<;>simp (disch:=omega) only [Sh.out h1,go_sem,seval,↓reduceIte]
  ·refine Yi (Ts x r.visits r.visits_c k hd hl Za) (Zc ?_);exact ⟨(k+1,o++ [Wf x r.visits k]),⟨Za,by grind [Ye]⟩,Za,Weak.mk (by simp (disch:=omega) only [ZG,ZD,ZF,Xs,Zq,Zn,go_sem,seval])⟩
  ·have hkl:k=r.visits.length+1:=Za
   subst hkl;refine Zp (Weak.fz (o:=2) (by rfl)) (Zg [] _ _ _ _ (US ?_));rw [QL,<- ho];exact we
theorem iR (x:Inst) (r:Rte) (hx:InstOk x) (hl:r.visits.length<=1048576) (hty:0<=r.typ/\r.typ<(x.types.length:Int)) (h0:Xg x r.visits=0) (hchk:PC 88 [.p (Zv x),.p (Wy r)] (.int .i64 (Xg x r.visits))) :
  PC 90 [.p (Zv x),.p (Wy r)] (.int .i64 (if Qn x (ZE x r).cap r.visits=true then 0 else 17)):=by
 have hd:=QG hx;have htl:=hd.typ
 have hti:r.typ.toNat<x.types.length:=Za
 have hcp:(nth x.types r.typ.toNat).cap.length<=3:=by
  have hcap:=hx.types.2 _ hti;unfold Ux at hcap;obtain ⟨⟨⟨⟨⟨⟨⟨⟨_,_⟩,_⟩,_⟩,hcap⟩,_⟩,_⟩,_⟩,_⟩:=hcap;simp only [Vy,ZH,Zs,rng] at hcap;omega
 have hll:(QL x r.visits).length=r.visits.length+1:=by simp [QL]
 have hln: ∀k,k<r.visits.length+1->nth (QL x r.visits) k=Wf x r.visits k:=fun k hk=>by
  grind [Zh,QL]
 have hal: ∀k,(Wf x r.visits k).length<=3:=fun k=>by rw [E8];have:=hd.dim;omega
 have cl:=aS x r hx hl h0 hchk;unfold ZE
 generalize hL:QL x r.visits=L at *
 refine Zd Tryz.func90 rfl Zjj ?_
 have e1: ¬r.typ<0:=Za
 have e2: ¬(x.types.length:Int)<=r.typ:=Za
 simp (disch:=omega) only [Tryz.f90,e1,e2,go_sem,seval];refine Yi cl (Zc ?_);refine Zl [2,3,5] (fun k:Nat=> [(7,.p (.int .i64 k))]) (fun _=> [Zi x,Xu r]) (fun k=>k<=r.visits.length+1/\ ∀j,j<k->VV (Wf x r.visits j) (nth x.types r.typ.toNat).cap=true) (fun k=>r.visits.length+1-k) 0 Zb (Weak.mk ?_) ?_
 ·simp (disch:=omega) only [Zi,Xu,go_sem,seval]
 ·rintro k ⟨hk,hno⟩;simp (disch:=omega) only [Zi,Xu,hll,go_sem,seval];refine cD ?_ ?_<;>intro h1<;>simp (disch:=omega) only [Sh.out h1,go_sem,seval,↓reduceIte]
  ·have hk2:k<r.visits.length+1:=Za
   have hk3:k<L.length:=Za
   have hk4:=hal k;refine Xe ?_;simp (disch:=omega) only [hln k hk2,go_sem,seval];refine Zo (iQ (Wf x r.visits k) (nth x.types r.typ.toNat).cap false (nth x.types r.typ.toNat).cap_c Za Za) (Zc ?_);refine ZR ?_ ?_<;>intro h2
   ·have h2':VV (Wf x r.visits k) (nth x.types r.typ.toNat).cap=false:=by grind
    have: ¬Qn x (nth x.types r.typ.toNat).cap r.visits=true:=fun h=>by
     grind [Qn]
    grind
   ·exact ⟨k+1,⟨Za,Zr.2 ⟨hno,by grind⟩⟩,Za,wk⟩
  ·have:Qn x (nth x.types r.typ.toNat).cap r.visits=true:=by
    grind [Qn]
   grind
def MF (j:Nat):Int:=if j=63 then-9223372036854775808 else ((pw j:Nat):Int)
theorem RK {j:Nat} (h:j<63):MF j=((pw j:Nat):Int):=by rw [MF,if_neg Za]
theorem Zde {j:Nat} (h:j<=62):pw j<=4611686018427387904:=by have:=Ko h;rwa [F9] at this
theorem MG {j:Nat} (h:j<=63):0<MF j↔j<63:=by
 grind [MF,Ga]
theorem xL {S q:Nat} (hS:S<9223372036854775808) (h:q<=S):IntKind.i64.wrap (q:Int)=(q:Int):=by rw [IntKind.wrap_i64];omega
theorem Zdg {P:Program} {t:TypeId} {S j:Nat} (hS:S<9223372036854775808):Yl P .quo t (.p (.int .i64 (S:Int))) (.p (.int .i64 ((pw j:Nat):Int)))=some (.int .i64 ((S / pw j:Nat):Int)):=by
 have hp:=Ga j;rw [eJ Za]
 have e:(S:Int).tdiv ((pw j:Nat):Int)=((S / pw j:Nat):Int):=by
  rfl
 have hle:=Nat.div_le_self S (pw j);rw [e,xL hS hle]
theorem tX {P:Program} {t:TypeId} {S:Nat} :Yl P .rem t (.p (.int .i64 (S:Int))) (.p (.int .i64 2))=some (.int .i64 ((S%2:Nat):Int)):=by
 rfl
theorem ZjV {S j:Nat} (hS:S<9223372036854775808):(IntKind.i64.wrap ((S:Int) / ((pw j:Nat):Int))).tmod 2=((S / pw j%2:Nat):Int):=by
 have hle:=Nat.div_le_self S (pw j)
 grind [xL]
theorem kU {P:Program} {t:TypeId} {j:Nat} (h:j<63):Yl P .mul t (.p (.int .i64 ((pw j:Nat):Int))) (.p (.int .i64 2))=some (.int .i64 (MF (j+1))):=by
 grind [eE,MF,Zde,pw,IntKind.wrap_i64]
theorem eM (t:Typ) (s:Int) (h1:t.skills<9223372036854775808) (h2:s<9223372036854775808):PC 89 [.p (X4 t),.p (.int .i64 s)] (.bool (Yk t s)):=by
 refine Zd Tryz.func89 rfl Zji ?_;simp (disch:=omega) only [Tryz.f89,go_sem,seval];refine gF ?_ ?_<;>intro c1<;>simp (disch:=omega) only [Sh.out c1,go_sem,seval,↓reduceIte]
 ·grind [Yk]
 ·refine cD ?_ ?_<;>intro c2<;>simp (disch:=omega) only [Sh.out c2,go_sem,seval]
  ·grind [Yk]
  ·obtain ⟨M,hM⟩: ∃M:Nat,t.skills=(M:Int):=⟨t.skills.toNat,Za⟩;obtain ⟨S,rfl⟩: ∃S:Nat,s=(S:Int):=⟨s.toNat,Za⟩
   have hMl:M<9223372036854775808:=Za
   have hSl:S<9223372036854775808:=Za
   have hab: ∀b:Bool,((List.range 63).all fun i=> !S.testBit i||M.testBit i)=b->Yk t (S:Int)=b:=fun b hb=>by
    simp_all [Yk]
   refine Zl [1,2] (fun j:Nat=> [(5,.p (.int .i64 (MF j)))]) (fun _=> [Yh t]) (fun j=>j<=63/\ ∀i,i<j->(!S.testBit i||M.testBit i)=true) (fun j=>63-j) 0 Zb (Weak.mk ?_) ?_
   ·simp (disch:=omega) only [Yh,hM,show MF 0=1 from rfl,go_sem,seval]
   ·rintro j ⟨hj,hno⟩;simp (disch:=omega) only [Yh,hM,go_sem,seval];refine cD ?_ ?_<;>intro c3<;>simp (disch:=omega) only [Sh.out c3,go_sem,seval,↓reduceIte]
    ·have hj2:j<63:=(MG hj).1 c3;simp (disch:=omega) only [RK hj2,ZjV hSl,IU,go_sem,seval];refine gT ?_ ?_<;>intro c4<;>simp (disch:=omega) only [Sh.out c4,RK hj2,Zdg hMl,ZjV hSl,tX,kU hj2,IU,IT,go_sem,seval]
     ·refine cD ?_ ?_<;>intro c5<;>simp (disch:=omega) only [Sh.out c5,kU hj2,go_sem,seval]
      ·grind
      ·exact ⟨j+1,⟨Za,Zr.2 ⟨hno,by grind⟩⟩,Za,Weak.mk (by simp (disch:=omega) only [hM,go_sem,seval])⟩
     ·exact ⟨j+1,⟨Za,Zr.2 ⟨hno,by grind⟩⟩,Za,Weak.mk (by simp (disch:=omega) only [hM,go_sem,seval])⟩
    ·have hj63:j=63:=by
      rcases Y9 j 63 with h | h
      ·simp_all [MG]
      ·omega
     simp_all
theorem O7 (l:List Vis) (c:Bool) (n:Nat) (hn:n<l.length) (hl:l.length<=1048576):PC 143 [.p (.list c (l.map Z8)),.p (.int .i64 (n:Nat))] (.bool (UD l n)):=by
 refine Zd Tryz.func143 rfl ZaW ?_;simp (disch:=omega) only [Tryz.f143,go_sem,seval];refine Zl [0,1] (fun k:Nat=> [(5,.p (.int .i64 k))]) (fun _=> []) (fun k=>k<=n/\ ∀j,j<k->(nth l j).order≠(nth l n).order) (fun k=>n-k) 0 Zb (Weak.mk ?_) ?_
 ·simp (disch:=omega) only [go_sem,seval,↓reduceIte]
 ·rintro k ⟨hk,hno⟩;refine Zc ?_;refine cD ?_ ?_<;>intro h1<;>simp (disch:=omega) only [Sh.out h1,go_sem,seval,↓reduceIte]
  ·have hk2:k<n:=Za
   have hk3:k<l.length:=Za
   refine Xe (Zc ?_);refine cD ?_ ?_<;>intro h2<;>simp (disch:=omega) only [Sh.out h2,go_sem,seval,↓reduceIte]
   ·grind [UD,KM]
   ·exact ⟨k+1,⟨Za,Zr.2 ⟨hno,h2⟩⟩,Za,wk⟩
  ·have hkn:k=n:=Za
   subst hkn
   have:UD l k=true:=by
    unfold UD;rw [XQ,Vh];intro v hv;obtain ⟨j,j1,j2,rfl⟩:=Qy hv
    grind
   rw [this]
def C8 (c m o w:Int):AM.Obj:= .cells [.p (.int .i64 c),.p (.int .i64 m),.p (.int .i64 o),.p (.int .i64 w)]
theorem B7 {x:Inst} {l:List Vis} {t:Int} : ∀n:Nat,(0<=(chgF x l t n).1/\(chgF x l t n).1<=n)/\(0<=(chgF x l t n).2/\(chgF x l t n).2<=n)
 | 0=>by simp [chgF]
 | n+1=>by
  have ih:=B7 (x:=x) (l:=l) (t:=t) n
  grind [chgF]
theorem cJ (x:Inst) (r:Rte) (s:She) (hty:0<=r.typ/\r.typ<(x.types.length:Int)) (ho:x.orders.length<=1048576) (ht:x.types.length<=1048576) (hl:r.visits.length<=1048576) (hv:Inr x r.visits)
  (hc:0<=(ZE x r).fixed/\(ZE x r).fixed<=100000/\0<=(ZE x r).perMile/\(ZE x r).perMile<=100/\0<=(ZE x r).perTick/\(ZE x r).perTick<=100) (ho2:0<=(ZE x r).opn/\(ZE x r).opn<=4096)
  (hf: -4096<=s.fin/\s.fin<=8192) (hm:0<=s.miles/\s.miles<=1000000) :
  PC 92 [.p (Zv x),.p (Wy r),.p (Fu s)] (Er (DQ x r s)):=by
 have hti:r.typ.toNat<x.types.length:=Za
 unfold DQ;have htd:nth x.types r.typ.toNat=ZE x r:=rfl
 generalize ZE x r=t at *
 have e1: ¬r.typ<0:=Za
 have e2: ¬(x.types.length:Int)<=r.typ:=Za
 have p1:0<=t.perMile*s.miles/\t.perMile*s.miles<=100*1000000:=⟨UI Za Za,VG Za Za Za Za⟩
 have hW: -8192<=s.fin-t.opn/\s.fin-t.opn<=8192:=Za
 have p2: -819200<=t.perTick*(s.fin-t.opn)/\t.perTick*(s.fin-t.opn)<=819200:=by
  generalize s.fin-t.opn=w at hW;have a1:=Bz hW.2 (show 0<=t.perTick by omega);have a2:=Bz hW.1 (show 0<=t.perTick by omega);omega
 have p3: -128<=(s.fin-t.opn).tdiv 64/\(s.fin-t.opn).tdiv 64<=128:=by
  grind
 have p4:0<=(s.fin-t.opn).tdiv 64*(s.fin-t.opn).tdiv 64/\(s.fin-t.opn).tdiv 64*(s.fin-t.opn).tdiv 64<=16384:=by
  generalize (s.fin-t.opn).tdiv 64=q at p3;refine ⟨?_,?_⟩
  ·rcases AF 0 q with h | h
   ·exact UI h h
   ·exact Int.mul_nonneg_of_nonpos_of_nonpos h h
  ·rcases AF 0 q with h | h
   ·have:=VG p3.2 p3.2 h Za;omega
   ·have h2:0<= -q:=Za
    have:=VG (show-q<=128 by omega) (show-q<=128 by omega) h2 Za
    grind
 refine Zd Tryz.func92 rfl Zjk ?_;simp (disch:=omega) only [Tryz.f92,e1,e2,htd,go_sem,seval];refine Zl [3,4,6,9] (fun k:Nat=> [(10,.p (.int .i64 k))]) (fun k=> [Zi x,Xu r,.cells [.p (.bool s.rest),.p (.int .i64 s.dep),.p (.list s.times_c (s.times.map eTim)),.p (.int .i64 s.fin),.p (.int .i64 s.miles)],C8 0 0 0 0,Yh t,C8 (t.fixed+t.perMile*s.miles+t.perTick*(s.fin-t.opn)) (chgF x r.visits r.typ k).1 (chgF x r.visits r.typ k).2 ((s.fin-t.opn).tdiv 64*(s.fin-t.opn).tdiv 64)]) (fun k=>k<=r.visits.length) (fun k=>r.visits.length-k) 0 Zb (Weak.mk ?_) ?_
 ·simp (disch:=omega) only [Zi,Xu,Yh,C8,chgF,go_sem,seval]
 ·intro k hk;have hch:=B7 (x:=x) (l:=r.visits) (t:=r.typ) k;simp (disch:=omega) only [Zi,Xu,Yh,C8,go_sem,seval];refine cD ?_ ?_<;>intro h1<;>simp (disch:=omega) only [Sh.out h1,go_sem,seval,↓reduceIte]
  ·have hk2:k<r.visits.length:=Za
   obtain ⟨v1,v2⟩:=hv _ (Zt hk2)
   have e3: ¬(nth r.visits k).order<0:=Za
   have e4: ¬(x.orders.length:Int)<=(nth r.visits k).order:=Za
   have v3:(nth r.visits k).order.toNat<x.orders.length:=Za
   simp (disch:=omega) only [e3,e4,go_sem,seval];refine (O7 r.visits r.visits_c k hk2 hl).use (Zc ?_);have hcs:chgF x r.visits r.typ (k+1)=_:=chgF.eq_2 x r.visits r.typ k;refine ZR ?_ ?_<;>intro h2
   ·have h2': ¬UD r.visits k=true:=by grind
    exact ⟨k+1,Za,Za,Weak.mk (by simp (disch:=omega) only [hcs,if_neg h2',go_sem,seval])⟩
   ·have h2':UD r.visits k=true:=by grind
    refine Xe (Zc ?_);refine gT ?_ ?_<;>intro h3<;>simp (disch:=omega) only [Sh.out h3,go_sem,seval,↓reduceIte]
    ·refine cD ?_ ?_<;>intro h4<;>simp (disch:=omega) only [Sh.out h4,go_sem,seval,↓reduceIte]
     ·have hn:Xq (nth x.orders (nth r.visits k).order.toNat).now r.typ=true:=by simp [Xq,h3,h4]
      refine Xe (Zc ?_);refine Q1 ?_ ?_<;>intro h5
      ·refine ZR ?_ ?_<;>intro h6
       ·have hl2:Xq (nth x.orders (nth r.visits k).order.toNat).last r.typ=true:=by simp [Xq,h5,h6]
        exact ⟨k+1,Za,Za,Weak.mk (by simp (disch:=omega) only [hcs,if_pos h2',hn,hl2,go_sem,seval,↓reduceIte])⟩
       ·have hl2:Xq (nth x.orders (nth r.visits k).order.toNat).last r.typ=false:=by simp_all [Xq]
        exact ⟨k+1,Za,Za,Weak.mk (by simp (disch:=omega) only [hcs,if_pos h2',hn,hl2,UL,YX,go_sem,seval,↓reduceIte])⟩
      ·have hl2:Xq (nth x.orders (nth r.visits k).order.toNat).last r.typ=false:=by simp_all [Xq]
       exact ⟨k+1,Za,Za,Weak.mk (by simp (disch:=omega) only [hcs,if_pos h2',hn,hl2,UL,YX,go_sem,seval,↓reduceIte])⟩
     ·have hn:Xq (nth x.orders (nth r.visits k).order.toNat).now r.typ=false:=by simp_all [Xq]
      refine Xe (Zc ?_);refine Q1 ?_ ?_<;>intro h5
      ·refine ZR ?_ ?_<;>intro h6
       ·have hl2:Xq (nth x.orders (nth r.visits k).order.toNat).last r.typ=true:=by simp [Xq,h5,h6]
        exact ⟨k+1,Za,Za,Weak.mk (by simp (disch:=omega) only [hcs,if_pos h2',hn,hl2,UL,YX,go_sem,seval,↓reduceIte])⟩
       ·have hl2:Xq (nth x.orders (nth r.visits k).order.toNat).last r.typ=false:=by grind
        exact ⟨k+1,Za,Za,Weak.mk (by simp (disch:=omega) only [hcs,if_pos h2',hn,hl2,UL,YX,go_sem,seval,↓reduceIte])⟩
      ·have hl2:Xq (nth x.orders (nth r.visits k).order.toNat).last r.typ=false:=by simp_all [Xq]
       exact ⟨k+1,Za,Za,Weak.mk (by simp (disch:=omega) only [hcs,if_pos h2',hn,hl2,UL,YX,go_sem,seval,↓reduceIte])⟩
    ·have hn:Xq (nth x.orders (nth r.visits k).order.toNat).now r.typ=false:=by simp_all [Xq]
     refine Xe (Zc ?_);refine Q1 ?_ ?_<;>intro h5
     ·refine ZR ?_ ?_<;>intro h6
      ·have hl2:Xq (nth x.orders (nth r.visits k).order.toNat).last r.typ=true:=by simp [Xq,h5,h6]
       exact ⟨k+1,Za,Za,Weak.mk (by simp (disch:=omega) only [hcs,if_pos h2',hn,hl2,UL,YX,go_sem,seval,↓reduceIte])⟩
      ·have hl2:Xq (nth x.orders (nth r.visits k).order.toNat).last r.typ=false:=by simp_all [Xq]
       exact ⟨k+1,Za,Za,Weak.mk (by simp (disch:=omega) only [hcs,if_pos h2',hn,hl2,UL,YX,go_sem,seval,↓reduceIte])⟩
     ·have hl2:Xq (nth x.orders (nth r.visits k).order.toNat).last r.typ=false:=by grind
      exact ⟨k+1,Za,Za,Weak.mk (by simp (disch:=omega) only [hcs,if_pos h2',hn,hl2,UL,YX,go_sem,seval,↓reduceIte])⟩
  grind
theorem SqOk.len {x:Inst} {l:List Vis} (h:SqOk x l) (hn:x.orders.length<=10):l.length<=20:=by
 have h1:=List.Nodup.length_le_of_subset (l₁ :=l) (l₂ :=(List.range 10).flatMap fun i:Nat=> [(⟨(i:Int),false⟩:Vis),⟨(i:Int),true⟩]) h.nd (fun v hv=>by
  obtain ⟨v1,v2⟩:=h.inr v hv;rw [XU];refine ⟨v.order.toNat,ZM.2 Za,?_⟩;obtain ⟨o,d⟩:=v
  have e:((o.toNat:Nat):Int)=o:=by grind
  simp_all)
 have h2:((List.range 10).flatMap fun i:Nat=> [(⟨(i:Int),false⟩:Vis),⟨(i:Int),true⟩]).length=20:=rfl;omega
theorem SqOk.vis {x:Inst} {l:List Vis} (h:SqOk x l) {v:Vis} (hv:v∈l):Aa x v=true:=by
 obtain ⟨v1,v2⟩:=h.inr v hv;obtain ⟨i,hi⟩: ∃i:Nat,v.order=(i:Int):=⟨v.order.toNat,Za⟩;have ho:=h.own (i:=i) ⟨v,hv,hi⟩
 have hpl:0<=(Xj x v).place:=by
  unfold Xj;rw [hi,XY]
  cases hd:v.drp with
  | true=>exact ho.isD (by rw [<- hi,<- hd];exact hv)
  | false=>exact ho.isP (by rw [<- hi,<- hd];exact hv)
 simp [Aa,Nh,v1,v2,hpl]
theorem tN {x:Inst} {r:Rte} (h:SqOk x r.visits) (hn:x.orders.length<=10) (ht:0<=r.typ/\r.typ<(x.types.length:Int)):Ut x r=(decide (0<=r.start)&&decide (r.start<=4096)):=by
 have h1:r.visits.all (Aa x)=true:=ZA.2 fun v hv=>h.vis hv;have h2:=h.len hn
 grind [Ut]
theorem SD {n:Net} (h:netOk n):netR n/\ ∀a∈n.arcs,0<=a.miles/\a.miles<=10000:=by
 obtain ⟨⟨⟨h1,_⟩,h2⟩,h3⟩:=h
 have ha: ∀a∈n.arcs,pJ a/\0<=a.miles/\a.miles<=10000:=fun a hm=>by
  obtain ⟨i,hi,rfl⟩:=ZN.1 hm;have:=h3 i hi;unfold Mv at this;rw [Zh hi] at this;obtain ⟨⟨⟨⟨⟨_,g1⟩,_⟩,g2⟩,g3⟩,g4⟩:=this;refine ⟨⟨g2,g3,fun p hp=> ?_⟩,g1.2.2.1,g1.2.2.2.1⟩;obtain ⟨j,hj,rfl⟩:=ZN.1 hp
  simp_all [K1,Zh,L9,rng]
 exact ⟨⟨Za,Za,fun a hm=>(ha a hm).1⟩,fun a hm=>(ha a hm).2⟩
theorem WM {x:Inst} (hx:InstOk x) {i:Nat} (hi:i<x.types.length):(0<=(nth x.types i).opn/\(nth x.types i).opn<=(nth x.types i).cls/\(nth x.types i).cls<=4096)/\(1<=(nth x.types i).drive/\(nth x.types i).drive<=4096)/\(0<=(nth x.types i).rest/\(nth x.types i).rest<=4096) /\
  (0<=(nth x.types i).fixed/\(nth x.types i).fixed<=100000/\0<=(nth x.types i).perMile/\(nth x.types i).perMile<=100/\0<=(nth x.types i).perTick/\(nth x.types i).perTick<=100)/\(0<=(nth x.types i).skills/\(nth x.types i).skills<=1073741823):=by
 have ht:=hx.types.2 i hi
 simp_all [Ux,rng]
theorem K7 {x:Inst} {r:Rte} (hx:InstOk x) (ht:0<=r.typ/\r.typ<(x.types.length:Int)) (h:SqOk x r.visits):TrpOk x (ZE x r) (ZO x r.visits):=by
 have hti:r.typ.toNat<x.types.length:=Za
 obtain ⟨t1,t2,t3,_⟩:=WM hx hti;obtain ⟨n1,n2⟩:=SD hx.net;refine ⟨n1,n2,t1,t2,t3,fun s hs=> ?_,by rw [Yf];exact h.len hx.orders.1⟩;obtain ⟨v,hv,rfl⟩:=XC.1 hs;obtain ⟨v1,v2⟩:=h.inr v hv
 have hi:v.order.toNat<x.orders.length:=Za
 have ho:=hx.orders.2 _ hi;have hvis:=h.vis hv;have hp:=ho.pstp;have hd:=ho.dstp;simp only [stpOk,Zs] at hp hd;simp only [Aa,ZH,Zs] at hvis;have h3:=hvis.2;unfold Xj at h3 ⊢
 grind
theorem N3 {x t sp} (h:TrpOk x t sp): ∀(bs:List Bool) (k:Nat) (L:Lab),k+bs.length=sp.length+1->LabR k L->(Xc x t sp k L bs).2=0->LabR (sp.length+1) (Xc x t sp k L bs).1/\(bs≠ []->(Xc x t sp k L bs).1.she.fin=(Xc x t sp k L bs).1.ready)
 | [],k,L,hk,hl,h0=>by
  simp at hk;subst hk;exact ⟨hl,fun h=>absurd rfl h⟩
 | b::bs,k,L,hk,hl,h0=>by
  simp at hk;rw [Xc] at h0 ⊢
  split at h0
  ·rename_i c;rw [if_pos c];obtain ⟨h1,h2⟩:=N3 h bs (k+1) _ Za (LB h Za hl c) h0;refine ⟨h1,fun _=> ?_⟩
   cases bs with
   | nil =>
    simp at hk;subst hk;exact NG (x:=x) (t:=t) (sp:=sp) (y:=L) (b:=b) (by rw [XA,if_pos c];rfl)
   | cons b2 bs=>grind
  omega
theorem Fo {x t sp} {st:Int} {r:List Bool} (h:TrpOk x t sp) (hs:0<=st/\st<=4096) (hr:r.length<=sp.length+1) (h0:(Yn x t sp st r).2=0):(0<=(Yn x t sp st r).1.fin/\(Yn x t sp st r).1.fin<=8192)/\(0<=(Yn x t sp st r).1.miles/\(Yn x t sp st r).1.miles<=210000):=by
 have hL0:LabR 0 (labF t st):=⟨by have:=h.opn;grind [labF],by simp [labF],by simp [labF,zShe]⟩;have hl:=h.len
 have key: ∀bs∈XD r (sp.length+1),(Xc x t sp 0 (labF t st) bs).2=0->(0<=(Xc x t sp 0 (labF t st) bs).1.she.fin/\(Xc x t sp 0 (labF t st) bs).1.she.fin<=8192)/\(0<=(Xc x t sp 0 (labF t st) bs).1.she.miles/\(Xc x t sp 0 (labF t st) bs).1.she.miles<=210000):=fun bs hbs he=>by
  obtain ⟨q,hq,rfl⟩:=XC.1 hbs;have hql:=bestF_len.fromB_len _ _ hq;simp at hql
  have hne:r++q≠ []:=fun e=>by
   simp_all
  obtain ⟨g1,g2⟩:=N3 h (r++q) 0 _ (by simp;omega) hL0 he;rw [g2 hne];have:=g1.rdy;have:=g1.mil;omega
 unfold Yn at h0 ⊢
 cases hf:W4 Wh none ((XD r (sp.length+1)).filterMap (Wc (XA x t sp) 0 (labF t st))) with
 | some L =>
  simp only;have:=bestF_len.fmL_mem _ _ hf
  grind [Yw]
 | none =>
  grind [zShe]
theorem TK (x:Inst) (r:Rte) (ho:x.orders.length<=1048576) (ht:x.types.length<=1048576) (hl:r.visits.length<=1048576) (hbad:Ut x r=false\/r.visits.length+1<r.rests.length) :
  PT 91 [.p (Zv x),.p (Wy r)] [.p (Fu zShe),.p (.int .i64 2)]:=by
 refine Zf [] Tryz.func91 rfl wR ?_;simp (disch:=omega) only [Tryz.f91,go_sem,seval];refine (F7 x r ho ht hl).use (Zc ?_);refine gF ?_ ?_<;>intro h1<;>simp (disch:=omega) only [Sh.out h1,go_sem,seval,↓reduceIte]
 ·exact we (by simp (disch:=omega) only [zShe,Zn,go_sem,seval])
 ·have h2:r.visits.length+1<r.rests.length:=hbad.resolve_left (by grind);refine cD ?_ ?_<;>intro h3<;>simp (disch:=omega) only [Sh.out h3,go_sem,seval,↓reduceIte]
  ·exact we (by simp (disch:=omega) only [zShe,Zn,go_sem,seval])
  ·omega
theorem qR (x:Inst) (r:Rte) (hx:InstOk x) (hl:r.visits.length<=1048576):PC 88 [.p (Zv x),.p (Wy r)] (.int .i64 (Xg x r.visits)):=by
 have hf:=XK hx;have hr:=hx.rules;obtain ⟨h1,h2⟩:=V3.1 hr
 have ha:x.apart.length<=1048576:=by
  have h3:=(V3.1 h1).1
  grind [G6]
 have hb:x.before.length<=1048576:=by
  have h3:=(V3.1 h2).1
  grind [G6]
 have:=P6 x r (by have:=hf.len;omega) hl ha hb hf.plc
 grind [tU]
def Cc (x:Inst) (r:Rte):V:= .tup [.p (Fu (X8 x r)),.p (Er (Wg x r)),.p (.int .i64 (Xw x r))]
theorem YF {x:Inst} {r:Rte} {e:Int} (h:Xw x r=e) (h0:e≠0):Cc x r= .tup [.p (Fu zShe),.p (Er zSco),.p (.int .i64 e)]:=by
 simp_all [Cc,X8,Wg]
theorem Cd (x:Inst) (r:Rte) (hx:InstOk x) (hl:r.visits.length<=1048576) (hrl:r.rests.length<=1048576):ACalls Tryz.prog 54 [.p (Zv x),.p (Wy r)] [] fun y H'=>y=Cc x r/\H'= []:=by
 have hld:=QG hx;have htl:=hld.typ;have hol:=hld.ord;have chk:=qR x r hx hl
 have htb:x.types.length<=6:=by have:=hx.types.1;simp only [rng,Zs] at this;omega
 refine Zf [] Tryz.func54 rfl ZiQ ?_;simp (disch:=omega) only [Tryz.f54,go_sem,seval];refine gF ?_ ?_<;>intro h1<;>simp (disch:=omega) only [Sh.out h1,go_sem,seval,↓reduceIte]
 ·have e:XW x r=2:=by rw [XW,if_pos Za]
  rw [YF (e:=2) (by rw [Xw,e];rfl) Za];exact we (by simp (disch:=omega) only [zShe,zSco,Zn,go_sem,seval])
 ·refine cD ?_ ?_<;>intro h2<;>simp (disch:=omega) only [Sh.out h2,go_sem,seval,↓reduceIte]
  ·have e:XW x r=2:=by simp_all [XW]
   rw [YF (e:=2) (by rw [Xw,e];rfl) Za];exact we (by simp (disch:=omega) only [zShe,zSco,Zn,go_sem,seval])
  ·have hty:0<=r.typ/\r.typ<(x.types.length:Int):=Za
   have hti:r.typ.toNat<x.types.length:=Za
   refine (chk).use (Zc ?_);refine cD ?_ ?_<;>intro h3<;>simp (disch:=omega) only [Sh.out h3,go_sem,seval,↓reduceIte]
   ·have e:XW x r=Xg x r.visits:=by simp_all [XW]
    rw [YF (e:=Xg x r.visits) (by simp_all [Xw]) h3];exact we (by simp (disch:=omega) only [zShe,zSco,Zn,go_sem,seval])
   ·have h3':=Z5.1 h3;have hsq:=VO h3'
    have hvn:0<r.visits.length:=by
     have:=hsq.ne
     grind
    have hok:=K7 hx hty hsq;have hnum:=WM hx hti
    have hr0:XW x r=if (r.visits.any fun v=> !Yk (ZE x r) (nth x.orders v.order.toNat).skills)=true then 18 else if Qn x (ZE x r).cap r.visits=false then 17 else if ¬(0<=r.start/\r.start<=4096/\r.rests.length<=r.visits.length+1) then 2 else 0:=by
     rw [XW,if_neg (fun h=>h hty),if_neg h3]
    have htyp:nth x.types r.typ.toNat=ZE x r:=rfl;rw [htyp] at hnum;have hf17:=iR x r hx hl hty h3' chk;have hposs:=tN hsq hol hty
    have hsk: ∀k,k<r.visits.length->(nth r.visits k).order.toNat<x.orders.length/\0<=(nth x.orders (nth r.visits k).order.toNat).skills/\(nth x.orders (nth r.visits k).order.toNat).skills<=1073741823:=fun k hk=>by
     obtain ⟨v1,v2⟩:=hsq.inr _ (Zt hk)
     have hi:(nth r.visits k).order.toNat<x.orders.length:=Za
     exact ⟨hi,(hx.orders.2 _ hi).skills⟩
    refine Zl [2,3,4,5] (fun k:Nat=> [(8,.p (.int .i64 k))]) (fun _=> [Zi x,Xu r,.cells [.p (.bool false),.p (.int .i64 0),.p (.list true []),.p (.int .i64 0),.p (.int .i64 0)],C8 0 0 0 0])
     (fun k=>k<=r.visits.length/\ ∀j,j<k->Yk (ZE x r) (nth x.orders (nth r.visits j).order.toNat).skills=true) (fun k=>r.visits.length-k) 0 Zb (Weak.mk ?_) ?_
    ·simp (disch:=omega) only [Zi,Xu,C8,go_sem,seval]
    ·rintro k ⟨hk,hno⟩;simp (disch:=omega) only [Zi,Xu,C8,go_sem,seval];refine cD ?_ ?_<;>intro h4<;>simp (disch:=omega) only [Sh.out h4,go_sem,seval,↓reduceIte]
     ·have hk2:k<r.visits.length:=Za
      obtain ⟨s1,s2,s3⟩:=hsk k hk2;obtain ⟨v1,v2⟩:=hsq.inr _ (Zt hk2);refine Xe ?_;simp (disch:=omega) only [htyp,go_sem,seval];refine Zo (eM (ZE x r) (nth x.orders (nth r.visits k).order.toNat).skills Za Za) (Zc ?_);refine ZR ?_ ?_<;>intro h5
      ·have e:XW x r=18:=by
        rw [hr0,if_pos]
        grind [Zt]
       rw [YF (e:=18) (by rw [Xw,e];rfl) Za];exact we (by simp (disch:=omega) only [zShe,zSco,Zn,go_sem,seval])
      ·exact ⟨k+1,⟨Za,Zr.2 ⟨hno,by grind⟩⟩,Za,wk⟩
     ·have hkl:k=r.visits.length:=Za
      subst hkl
      have hall: ¬(r.visits.any fun v=> !Yk (ZE x r) (nth x.orders v.order.toNat).skills)=true:=fun h=>by
       obtain ⟨v,hv,hb⟩:=WH.1 h;obtain ⟨j,hj,rfl⟩:=ZN.1 hv
       grind [Zh]
      rw [if_neg hall] at hr0;refine (hf17).use (Zc ?_)
      cases hlb:Qn x (ZE x r).cap r.visits with
      | false =>
       have e:XW x r=17:=by grind
       simp only [YX,YE];refine Zc ?_;rw [YF (e:=17) (by rw [Xw,e];rfl) Za];exact we (by simp (disch:=omega) only [zShe,zSco,Zn,go_sem,seval])
      | true =>
       rw [hlb,if_neg Zb] at hr0;simp only [if_true];refine Zc ?_
       by_cases h6:0<=r.start/\r.start<=4096/\r.rests.length<=r.visits.length+1
       ·have e:XW x r=0:=Za
        have hp:Ut x r=true:=by grind
        have ee:Xw x r=(Xv x r).2:=by rw [Xw,if_pos e]
        have cb:=fT x r hok Za htl hvn hp h6.2.2;have hbr:=Fo hok ⟨h6.1,h6.2.1⟩ (by rw [Yf];exact h6.2.2);have hbr:(Xv x r).2=0->_:=hbr
        change (Xv x r).2=0->(0<=(Xv x r).1.fin/\(Xv x r).1.fin<=8192)/\(0<=(Xv x r).1.miles/\(Xv x r).1.miles<=210000) at hbr
        have es:X8 x r=if (Xv x r).2=0 then (Xv x r).1 else zShe:=by rw [X8,ee]
        have ep:Wg x r=if (Xv x r).2=0 then DQ x r (Xv x r).1 else zSco:=by rw [Wg,ee]
        unfold Cc;rw [ee,es,ep];clear ee es ep
        generalize Xv x r=q at *
        obtain ⟨sh,eb⟩:=q;simp only at cb hbr ⊢;refine Yi cb (Zc ?_);refine cD ?_ ?_<;>intro h7<;>simp (disch:=omega) only [Sh.out h7,go_sem,seval,↓reduceIte]
        ·exact we (by simp (disch:=omega) only [zShe,zSco,Zn,go_sem,seval])
        ·have h7':=Z5.1 h7
         try rw [if_pos h7',if_pos h7']
         subst h7';obtain ⟨g1,g2⟩:=hbr rfl;refine ZC 5 mixed Ze Ze (Zc ?_);refine Zo (cJ x r sh hty Za htl hl hsq.inr hnum.2.2.2.1 Za Za Za) (Zc ?_);exact we
       ·have e:XW x r=2:=Za
        rw [YF (e:=2) (by rw [Xw,e];rfl) Za];refine Yi (TK x r Za htl hl ?_) ?_
        ·grind
        ·refine Zc ?_;exact we (by simp (disch:=omega) only [zShe,zSco,Zn,go_sem,seval])
theorem dH (x:Inst) (r:Rte) (hx:InstOk x) (hl:r.visits.length<=1048576) (hrl:r.rests.length<=1048576):PC 86 [.p (Zv x),.p (Wy r)] (.int .i64 (Xw x r)):=by
 have ce:=Cd x r hx hl hrl;refine Zd Tryz.func86 rfl Zjg ?_;simp (disch:=omega) only [Tryz.f86,go_sem,seval];unfold Cc at ce;refine OB ce ?_;simp (disch:=omega) only [go_sem,seval,↓reduceIte]
theorem Zdo {p q:Pt} {t:Int} (h1:p.t<=t) (h2:t<q.t) (hp:p.t<=p.a) (hq:q.t<=q.a):t<=Hd p q t:=by
 unfold Hd
 have hw:0<q.t-p.t:=Za
 have key:(t-p.a)*(q.t-p.t)<=(t-p.t)*(q.a-p.a)+q.t-p.t-1:=by
  have e:(t-p.t)*(q.a-p.a)-(t-p.a)*(q.t-p.t)=(t-p.t)*(q.a-q.t)+(p.a-p.t)*(q.t-t):=by
   grind
  have h3:0<=(t-p.t)*(q.a-q.t):=UI Za Za;have h4:0<=(p.a-p.t)*(q.t-t):=UI Za Za;omega
 have:=Int.le_ediv_of_mul_le hw key;omega
theorem pM {l:List Pt} {t:Int} (hl:W9 l):t<=JI l t:=by
 obtain ⟨⟨hl1,hl2⟩,hpt⟩:=hl;unfold JI
 split
 ·rename_i i hi;have hm:=Q8 hi;have hs:=QJ hi;simp at hm;simp only [Jg,ZH,Zs] at hs;obtain ⟨⟨p1,p2,p3,p4⟩,_⟩:=hpt i Za;obtain ⟨⟨q1,q2,q3,q4⟩,q5⟩:=hpt (i+1) Za
  simp_all [Zdo]
 ·obtain ⟨⟨p1,p2,p3,p4⟩,_⟩:=hpt 0 Za;obtain ⟨⟨q1,q2,q3,q4⟩,_⟩:=hpt (l.length-1) Za;omega
theorem jN {n:Net} {pr f t τ:Int} (hn:netR n) (h:(WY n pr f t τ).2.2=0):τ<=(WY n pr f t τ).1:=by
 unfold WY at h ⊢
 split at h
 ·simp at h
 ·rename_i c1;rw [if_neg c1]
  split at h
  ·grind
  ·rename_i c2;rw [if_neg c2]
   split at h
   ·rename_i c3;rw [if_pos c3];have hA:=Ak c3;have h1:=pM (t:=τ) (hn.2.2 _ hA).1;have h2:=JB (t:=τ) (fun p hp=>((hn.2.2 _ hA).2.2 p hp).2.2) _ (ZB _)
    grind [IK]
   ·simp at h
theorem Hm {x t sp} {st:Int} {r:List Bool} (hr:r.length<=sp.length+1) (h:(Yn x t sp st r).2=0): ∃bs:List Bool,bs.length=sp.length+1/\(Xc x t sp 0 (labF t st) bs).2=0/\(Yn x t sp st r).1=(Xc x t sp 0 (labF t st) bs).1.she:=by
 unfold Yn at h ⊢
 cases hf:W4 Wh none ((XD r (sp.length+1)).filterMap (Wc (XA x t sp) 0 (labF t st))) with
 | none =>
  rw [hf] at h;simp only at h ⊢;exfalso
  have hm:YQ r (sp.length+1)∈XD r (sp.length+1):=by
   grind [XD,YQ,fromB_next]
  have h2:Wc (XA x t sp) 0 (labF t st) (YQ r (sp.length+1))=some (Xc x t sp 0 (labF t st) (YQ r (sp.length+1))).1:=by rw [Yw,if_pos h]
  have h3:(Xc x t sp 0 (labF t st) (YQ r (sp.length+1))).1∈(XD r (sp.length+1)).filterMap (Wc (XA x t sp) 0 (labF t st)):=KJ.2 ⟨_,hm,h2⟩;generalize (XD r (sp.length+1)).filterMap (Wc (XA x t sp) 0 (labF t st))=l at hf h3
  cases l with
  | nil=>simp at h3
  | cons a l =>
   rw [W4] at hf;obtain ⟨z,e,_⟩:=VA Wh l a
   grind
 | some L =>
  simp only;have hm:=bestF_len.fmL_mem _ _ hf;obtain ⟨bs,hbs,hrun⟩:=KJ.1 hm;rw [Yw] at hrun
  split at hrun
  ·rename_i h5;simp at hrun;subst hrun;obtain ⟨q,hq,rfl⟩:=XC.1 hbs;have hql:=bestF_len.fromB_len _ _ hq
   grind
  ·cases hrun
structure Sr where
 rdy:Int
 drv:Int
 deriving Inhabited,DecidableEq
def UQ (l:List Sr) (s:Sr):List Sr:=if s∈l then l else l++ [s]
def VM (t:Typ) (l:List Sr) (d v:Int):List Sr:=UQ (UQ l ⟨d,v⟩) ⟨d+t.rest,0⟩
def JE (x:Inst) (t:Typ) (from':Int) (stop:Stp) (out:List Sr) (a:Sr):List Sr :=
 if ¬(WY x.net t.prof from' stop.place a.rdy).2.2=0\/t.drive<a.drv+(WY x.net t.prof from' stop.place a.rdy).1-a.rdy then out
 else if stop.cls<max (WY x.net t.prof from' stop.place a.rdy).1 stop.opn then out
 else VM t out (max (WY x.net t.prof from' stop.place a.rdy).1 stop.opn+stop.serv) (a.drv+(WY x.net t.prof from' stop.place a.rdy).1-a.rdy)
def D0 (x:Inst) (t:Typ) (from':Int) (st:List Sr) (stop:Stp):List Sr:=st.foldl (JE x t from' stop) []
theorem aO {l:List Sr} {s a:Sr} :a∈UQ l s↔a∈l\/a=s:=by
 grind [UQ]
theorem Vl {t:Typ} {l:List Sr} {d v:Int} {a:Sr} :a∈VM t l d v↔a∈l\/a=⟨d,v⟩\/a=⟨d+t.rest,0⟩:=by
 simp [VM,aO,or_assoc]
theorem RU {n:Nat} (h:n<10):dec n= [UInt8.ofNat (48+n)]:=by rw [dec,dif_pos h]
theorem qY {n:Nat} (h:10<=n) (h2:n<100):dec n= [UInt8.ofNat (48+n / 10),UInt8.ofNat (48+n%10)]:=by
 rw [dec,dif_neg Za,RU Za];rfl
theorem Mx {s:List UInt8} {k k':IntKind} {a b:Int} (h:0<=a/\a<=b/\b<=(s.length:Int)):IM (some .string) s (.p (.int k a)) (.p (.int k' b))=some (.p (.str ((s.take b.toNat).drop a.toNat))):=by
 simp_all [IM]
def digT : List UInt8:=(List.range 36).map fun i=>UInt8.ofNat (if i<10 then 48+i else 87+i)
def smalT : List UInt8:=(List.range 100).flatMap fun i=> [UInt8.ofNat (48+i / 10),UInt8.ofNat (48+i%10)]
theorem qZ : ∀n,n<10->(digT.take (n+1)).drop n= [UInt8.ofNat (48+n)]:=by decide
theorem nH : ∀n,n<100->(smalT.take (2*n+2)).drop (2*n)= [UInt8.ofNat (48+n / 10),UInt8.ofNat (48+n%10)]:=by decide+kernel
theorem uJ (n:Nat) (hn:n<100):PC 298 [.p (.int .i64 (n:Int))] (.str (dec n)):=by
 refine Zd Tryz.func298 rfl ZcP ?_;simp (disch:=omega) only [Tryz.f298,go_sem,seval];refine cD ?_ ?_<;>intro h<;>simp (disch:=omega) only [Sh.out h,go_sem,seval]
 ·rw [RU Za,Mx (by simp;omega)]
  have e1:((n:Int)+1).toNat=n+1:=Za
  have e2:((n:Int)).toNat=n:=Za
  rw [e1,e2];refine (Zw (fun z=>BE (some (V.p (PV.str z))) _) (qZ n Za)).mpr ?_;simp (disch:=omega) only [go_sem,seval]
 ·rw [qY Za hn,Mx (by simp;omega)]
  have e1:((n:Int)*2+2).toNat=2*n+2:=Za
  have e2:((n:Int)*2).toNat=2*n:=Za
  rw [e1,e2];refine (Zw (fun z=>BE (some (V.p (PV.str z))) _) (nH n Za)).mpr ?_;simp (disch:=omega) only [go_sem,seval]
theorem jB (n:Nat) (hn:n<100):PC 297 [.p (.int .i64 (n:Int)),.p (.int .i64 10)] (.str (dec n)):=by
 refine Zd Tryz.func297 rfl ZcO ?_
 have h0:(0:Int)<=(n:Int):=Za
 have h1:(n:Int)<100:=Za
 simp (disch:=omega) only [Tryz.f297,h0,h1,go_sem,seval];refine (uJ n hn).use ?_;simp (disch:=omega) only [go_sem,seval]
theorem sF (n:Nat) (hn:n<100):PC 296 [.p (.int .i64 (n:Int))] (.str (dec n)):=by
 refine Zd Tryz.func296 rfl ZcN ?_;simp (disch:=omega) only [Tryz.f296,go_sem,seval];refine (jB n hn).use ?_;simp (disch:=omega) only [go_sem,seval]
theorem ZcQ (n:Nat) (hn:n<100):PC 295 [.p (.int .i64 (n:Int))] (.str (dec n)):=by
 refine Zd Tryz.func295 rfl ZcM ?_;simp (disch:=omega) only [Tryz.f295,go_sem,seval];refine (sF n hn).use ?_;simp (disch:=omega) only [go_sem,seval]
theorem OF (n a b:Int):PC 282 [.p (.int .i64 n),.p (.int .i64 a),.p (.int .i64 b)] (.bool (decide (a<=n)&&decide (n<=b))):=by
 refine Zd Tryz.func282 rfl Zcz ?_;simp (disch:=omega) only [Tryz.f282,go_sem,seval]
 repeat' (first | (refine gT ?_ ?_<;>intro hq<;>simp (disch:=omega) only [Sh.out hq,go_sem,seval,↓reduceIte]) | (refine Uf (fun hq=> ?_) (fun hq=> ?_)<;>(try simp only [Zs,XH,Z5] at hq)<;>simp (disch:=omega) only [Sh.out hq,go_sem,seval]) | (refine UV (fun hq=> ?_) (fun hq=> ?_)<;>(try simp only [Zs,XH,Z5] at hq)<;>simp (disch:=omega) only [Sh.out hq,go_sem,seval]))
 all_goals (simp;first | done | omega)
theorem lN (l:List Pt) (c:Bool) (hl:W9 l):PC 292 [.p (.list c (l.map Hs))] (.list true []):=by
 obtain ⟨⟨hl1,hl2⟩,hpt⟩:=hl;refine Zd Tryz.func292 rfl ZcJ ?_
 have e1: ¬(l.length:Int)=0:=Za
 have e2: ¬(16:Int)<(l.length:Int):=Za
 simp (disch:=omega) only [Tryz.f292,e1,e2,go_sem,seval];refine Zl [0,19,20] (fun k:Nat=> [(3,.p (.list true [])),(21,.p (.int .i64 k))]) (fun _=> []) (fun k=>k<=l.length) (fun k=>l.length-k) 0 Zb (Weak.mk ?_) ?_
 ·simp (disch:=omega) only [go_sem,seval,↓reduceIte]
 ·intro k hk;refine Zc ?_;refine cD ?_ ?_<;>intro h<;>simp (disch:=omega) only [Sh.out h,go_sem,seval,↓reduceIte]
  ·have hk2:k<l.length:=Za
   obtain ⟨⟨p1,p2,p3,p4⟩,q⟩:=hpt k hk2;refine (ZcQ k Za).use (Zc ?_);refine (OF (nth l k).t 0 4096).use (Zc ?_);simp (disch:=omega) only [p1,p2,go_sem,seval];refine gF ?_ ?_<;>intro h3<;>simp (disch:=omega) only [Sh.out h3,go_sem,seval,↓reduceIte]
   ·omega
   ·refine cD ?_ ?_<;>intro h4<;>simp (disch:=omega) only [Sh.out h4,go_sem,seval,↓reduceIte]
    ·omega
    ·refine Xe (Zc ?_);refine gT ?_ ?_<;>intro h5<;>simp (disch:=omega) only [Sh.out h5,go_sem,seval,↓reduceIte]
     ·obtain ⟨r1,r2⟩:=q Za;refine gF ?_ ?_<;>intro h6<;>simp (disch:=omega) only [Sh.out h6,go_sem,seval,↓reduceIte]
      ·omega
      ·refine cD ?_ ?_<;>intro h7<;>simp (disch:=omega) only [Sh.out h7,go_sem,seval,↓reduceIte]
       ·omega
       ·exact ⟨k+1,Za,Za,wk⟩
     ·exact ⟨k+1,Za,Za,wk⟩
theorem RQ (p:Pt) (t:Int) (h:0<=p.t/\p.t<=4096) (ht:0<=t/\t<=1073741824):PC 294 [.p (Hs p),.p (.int .i64 t)] (.int .i64 (p.t-t)):=by
 refine Zd Tryz.func294 rfl ZcL ?_;simp (disch:=omega) only [Tryz.f294,go_sem,seval,↓reduceIte]
theorem tY (l:List Pt) (c:Bool) (hl:W9 l):PC 283 [.p (.list c (l.map Hs))] (.bool true):=by
 refine Zd Tryz.func283 rfl ZcA ?_;simp (disch:=omega) only [Tryz.f283,go_sem,seval];refine (lN l c hl).use ?_;simp (disch:=omega) only [go_sem,seval]
structure PosT (l:List Pt) (t:Int) (i:Nat):Prop where
 le:i<=l.length
 lo: ∀j,j<i->(nth l j).t<t
 hi: ∀j,i<=j->j<l.length->t<=(nth l j).t
theorem ZhB (l:List Pt) (c:Bool) (t:Int) (i:Nat) (hl:W9 l) (ht:0<=t/\t<=1073741824) (hi:PosT l t i):PT 293 [.p (.list c (l.map Hs)),.p (.int .i64 t),.fn (.func 294) [] []] [.p (.int .i64 (i:Int)),.p (.bool (decide (i<l.length)&&decide ((nth l i).t=t)))]:=by
 obtain ⟨⟨hl1,hl2⟩,hpt⟩:=hl;obtain ⟨hi1,hi2,hi3⟩:=hi;refine Zf [] Tryz.func293 rfl ZcK ?_;simp (disch:=omega) only [Tryz.f293,go_sem,seval];refine Zl [0,1,2,8] (fun q:Nat×Nat=> [(9,.p (.int .i64 q.1)),(10,.p (.int .i64 q.2))]) (fun _=> []) (fun q=>q.1<=i/\i<=q.2/\q.2<=l.length) (fun q=>q.2-q.1) (0,l.length) (by simp;omega) (Weak.mk ?_) ?_
 ·simp (disch:=omega) only [go_sem,seval,↓reduceIte]
 ·rintro ⟨a,b⟩ ⟨h1,h2,h3⟩;simp only at h1 h2 h3;refine Zc ?_;refine cD ?_ ?_<;>intro h<;>simp (disch:=omega) only [Sh.out h,go_sem,seval,↓reduceIte]
  ·have hm:(a+b) / 2<l.length:=Za
   obtain ⟨⟨p1,p2,p3,p4⟩,q⟩:=hpt _ hm
   have hs:((a:Int)+(b:Int)).fdiv (2^min 1 64)=(((a+b) / 2:Nat):Int):=by
    grind
   have em:((((a+b) / 2:Nat)):Int).toNat=(a+b) / 2:=Za
   have hnb:((a+b) / 2<i)↔(nth l ((a+b) / 2)).t-t<0:=by
    grind
   rw [hs];refine Zc ?_;refine (RQ (nth l ((a+b) / 2)) t ⟨p1,p2⟩ ht).use (Zc ?_);refine cD ?_ ?_<;>intro h4<;>simp (disch:=omega) only [Sh.out h4,go_sem,seval,↓reduceIte]
   ·exact ⟨((a+b) / 2+1,b),⟨Za,h2,h3⟩,Za,wk⟩
   ·exact ⟨(a,(a+b) / 2),⟨h1,Za,Za⟩,Za,wk⟩
  ·have:a=i:=Za
   subst this;refine gT ?_ ?_<;>intro h4<;>simp (disch:=omega) only [Sh.out h4,go_sem,seval,↓reduceIte]
   ·have hm:a<l.length:=Za
    obtain ⟨⟨p1,p2,p3,p4⟩,q⟩:=hpt _ hm;refine (RQ (nth l a) t ⟨p1,p2⟩ ht).use (Zc ?_);have e5:((nth l a).t-t=0)=((nth l a).t=t):=propext Za;exact we (by simp (disch:=omega) only [e5,hm,go_sem,seval])
   ·have hm: ¬a<l.length:=Za
    exact we (by simp (disch:=omega) only [hm,go_sem,seval])
theorem CY {l:List Pt} (hl:W9 l) {k:Nat} (hk:k<l.length): ∀j,j<k->(nth l j).t<(nth l k).t:=by
 obtain ⟨_,hpt⟩:=hl
 induction k with
 | zero=>omega
 | succ k ih =>
  intro j hj;obtain ⟨_,q⟩:=hpt (k+1) hk
  grind
theorem tM {l:List Pt} (hl:W9 l) (t:Int): ∃i,PosT l t i:=by
 have: ∀n,n<=l.length-> ∃i,i<=n/\(∀j,j<i->(nth l j).t<t)/\(i<n->t<=(nth l i).t):=by
  intro n
  induction n with
  | zero=>simp
  | succ n ih =>
   grind
 obtain ⟨i,h1,h2,h3⟩:=this l.length (ZB _);refine ⟨i,h1,h2,fun j hj hjl=> ?_⟩;rcases Nat.lt_or_eq_of_le hj with h | h
 ·have:=CY hl hjl i h;omega
 grind
theorem pL {l:List Pt} {t:Int} {i:Nat} (hl:W9 l) (h:PosT l t i) (hi:i<l.length) (e:(nth l i).t=t):JI l t=(nth l i).a:=by
 by_cases g:i+1<l.length
 ·have m:=CY hl g i Za;rw [IL g (fun j hj=> ?_) (by grind [Jg]),Hd]
  ·rw [e,Int.sub_self,Int.zero_mul,Int.zero_add];rw [Int.ediv_eq_zero_of_lt Za Za];omega
  ·have:(nth l (j+1)).t<=t:=by
    rcases Nat.lt_or_eq_of_le (show j+1<=i by omega) with h1 | h1
    ·have:=h.lo _ h1;omega
    grind
   simp [Jg];omega
 ·have hi1:i=l.length-1:=Za
  rw [Ez (fun j hj=> ?_)]
  ·split
   ·grind
   ·have:i=0:=by
     by_cases g2:i=0
     ·exact g2
     ·have:=h.lo 0 Za;omega
    grind
  ·have:(nth l (j+1)).t<=t:=by
    rcases Nat.lt_or_eq_of_le (show j+1<=i by omega) with h1 | h1
    ·have:=h.lo _ h1;omega
    grind
   simp [Jg];omega
theorem pO {l:List Pt} {t:Int} (hl:W9 l) (h:PosT l t 0) (e: ¬(nth l 0).t=t):JI l t=t+(nth l 0).a-(nth l 0).t:=by
 have h0:=h.hi 0 (ZB _) hl.1.1;rw [Ez (fun j hj=> ?_),if_neg Za]
 have:t<(nth l j).t:=by
  by_cases g:j=0
  ·grind
  ·have:=CY hl (show j<l.length by omega) 0 Za;omega
 simp [Jg];omega
theorem pN {l:List Pt} {t:Int} (h:PosT l t l.length) (hl:0<l.length):JI l t=t+(nth l (l.length-1)).a-(nth l (l.length-1)).t:=by
 rw [Ez (fun j hj=> ?_),if_pos (h.lo 0 hl)];have:=h.lo (j+1) hj;simp [Jg];omega
theorem fI {l:List Pt} {t:Int} {i:Nat} (h:PosT l t i) (h0:0<i) (hi:i<l.length) (e: ¬(nth l i).t=t):JI l t=Hd (nth l (i-1)) (nth l i) t:=by
 have e1:i-1+1=i:=Za
 have h1:=h.lo (i-1) Za;have h2:=h.hi i (ZB _) hi;have:=IL (l:=l) (t:=t) (i:=i-1) Za (fun j hj=>by have:=h.lo (j+1) Za;simp [Jg];omega) (by grind [Jg]);rw [this,e1]
theorem If {p q:Pt} {t:Int} (h1:p.t<=t) (h2:t<q.t) (hp:0<=p.t) (hq:q.t<=4096) (ha:p.a<=q.a) (hpa:0<=p.a) (hqa:q.a<=8192) :
  IntKind.i64.wrap (p.a+IntKind.i64.wrap ((IntKind.i64.wrap (IntKind.i64.wrap (IntKind.i64.wrap ((t-p.t)*(q.a-p.a))+(q.t-p.t))-1)).tdiv (q.t-p.t)))=Hd p q t:=by
 have hm:=Gn h1 h2 hp hq ha hpa hqa;unfold Hd;generalize hM:(t-p.t)*(q.a-p.a)=m at hm
 have hd:0<=(m+(q.t-p.t)-1) / (q.t-p.t)/\(m+(q.t-p.t)-1) / (q.t-p.t)<=m+(q.t-p.t)-1:=by
  refine ⟨Int.ediv_nonneg Za Za,Int.ediv_le_self _ Za⟩
 rw [IntWalk.i64_in m Za,IntWalk.i64_in (m+(q.t-p.t)) Za,IntWalk.i64_in (m+(q.t-p.t)-1) Za,Int.tdiv_eq_ediv_of_nonneg Za,IntWalk.i64_in ((m+(q.t-p.t)-1) / (q.t-p.t)) Za,IntWalk.i64_in _ Za]
 congr 2
 omega
theorem PS (l:List Pt) (c:Bool) (t:Int) (hl:W9 l) (ht:0<=t/\t<=1073741824):PC 284 [.p (.list c (l.map Hs)),.p (.int .i64 t)] (.int .i64 (JI l t)):=by
 obtain ⟨i,hi⟩:=tM hl t;have hl':=hl;obtain ⟨⟨hl1,hl2⟩,hpt⟩:=hl';refine Zd Tryz.func284 rfl ZcB ?_;simp (disch:=omega) only [Tryz.f284,go_sem,seval];refine Yi (ZhB l c t i hl ht hi) (Zc ?_);obtain ⟨i1,i2,i3⟩:=id hi;refine cD ?_ ?_<;>intro h<;>simp (disch:=omega) only [Sh.out h,go_sem,seval,↓reduceIte]
 ·grind [pL]
 ·refine cD ?_ ?_<;>intro h0<;>simp (disch:=omega) only [Sh.out h0,go_sem,seval]
  ·have:i=0:=Za
   subst this;obtain ⟨p1,p2⟩:=hpt 0 Za;rw [pO hl hi (fun g=>h ⟨Za,g⟩)];refine Xe ?_;simp (disch:=omega) only [go_sem,seval,↓reduceIte]
  ·refine cD ?_ ?_<;>intro h1<;>simp (disch:=omega) only [Sh.out h1,go_sem,seval]
   ·have:i=l.length:=Za
    subst this;obtain ⟨p1,p2⟩:=hpt (l.length-1) Za;rw [pN hi Za]
    have e1:((l.length:Int)-1).toNat=l.length-1:=Za
    refine Xe ?_;simp (disch:=omega) only [go_sem,seval,↓reduceIte]
   ·have g1:i<l.length:=Za
    rw [fI hi Za g1 (fun g=>h ⟨g1,g⟩)];have g2:=CY hl g1 (i-1) Za;obtain ⟨p1,p2⟩:=hpt i g1;obtain ⟨p3,p4⟩:=hpt (i-1) Za
    have e1:((i:Int)-1).toNat=i-1:=Za
    have q1:=i2 (i-1) Za;have q2:=i3 i (ZB _) g1;have q3: ¬(nth l i).t=t:=fun g=>h ⟨g1,g⟩;have q4:=p2 Za;refine X2 [9,10,11] 12 mixed Ze Ze Ze Zb ?_;simp (disch:=omega) only [e1,go_sem,seval];refine aR 9 10 _ _ _ _ Ze (by refine Zc ?_;exact ⟨rfl,rfl⟩) (by refine Zc ?_;exact ⟨rfl,rfl⟩) ?_ ?_
    ·refine Xr 10 _ _ Ze (by refine Zc ?_;exact ⟨rfl,rfl⟩) (Xr 11 _ _ Ze (by refine Zc ?_;exact ⟨rfl,rfl⟩) (Wv ?_));refine Zc ?_;refine Xe (Zc ?_);exact Zw (fun z=>V.p (PV.int IntKind.i64 z)) (If Za Za Za Za Za Za Za)
    ·refine Xr 9 _ _ Ze (by refine Zc ?_;exact ⟨rfl,rfl⟩) (Xr 11 _ _ Ze (by refine Zc ?_;exact ⟨rfl,rfl⟩) (Wv ?_));refine Zc ?_;refine Xe (Zc ?_);exact Zw (fun z=>V.p (PV.int IntKind.i64 z)) (If Za Za Za Za Za Za Za)
theorem bL (l:List Pt) (c:Bool) (t:Int) (hl:W9 l) (ht:0<=t/\t<=1073741824):PC 264 [.p (.list c (l.map Hs)),.p (.int .i64 t)] (.int .i64 (JI l t)):=by
 refine Zd Tryz.func264 rfl Zch ?_;simp (disch:=omega) only [Tryz.f264,go_sem,seval];refine (OF t 0 1073741824).use (Zc ?_);simp (disch:=omega) only [ht,go_sem,seval];refine (tY l c hl).use (Zc ?_);refine (PS l c t hl ht).use ?_;simp (disch:=omega) only [go_sem,seval]
theorem NQ (n:Net) (p:Int) (hn:n.places.length<=1048576):PC 237 [.p (Cb n),.p (.int .i64 p)] (.bool (KT n p)):=by
 refine Zd Tryz.func237 rfl ZbS ?_;simp (disch:=omega) only [Tryz.f237,go_sem,seval];refine gT ?_ ?_<;>intro h<;>simp (disch:=omega) only [Sh.out h,go_sem,seval,↓reduceIte]
 ·simp [KT,h]
 ·simp [KT,h]
theorem vH (a:Arc):PC 263 [.p (VS a)] (.agg [.int .i64 a.src,.int .i64 a.dst,.int .i64 a.prof]):=by
 refine Zd Tryz.func263 rfl Zcg ?_;simp (disch:=omega) only [Tryz.f263,go_sem,seval,↓reduceIte]
theorem tF (a:Arc) (t:Int) (ha:pJ a) (ht:0<=t/\t<=1073741824):PC 239 [.p (VS a),.p (.int .i64 t)] (.int .i64 (IK a t)):=by
 obtain ⟨h1,h2,h3⟩:=ha;have hr:=Fg h1 ht;have hs:=JB (t:=t) (fun p hp=>(h3 p hp).2.2);refine Zd Tryz.func239 rfl ZbU ?_;simp (disch:=omega) only [Tryz.f239,go_sem,seval];refine (bL a.travel a.travel_c t h1 ht).use (Zc ?_);refine Zl [1,13,14] (fun k:Nat=> [(5,.p (.int .i64 (JI a.travel t+Kp a.slow t k))),(15,.p (.int .i64 k))]) (fun _=> [Vc a]) (fun k=>k<=a.slow.length) (fun k=>a.slow.length-k) 0 Zb (Weak.mk ?_) ?_
 ·simp (disch:=omega) only [Vc,Kp,UJ,go_sem,seval];simp
 ·intro k hk;have hsk:=hs k hk;simp (disch:=omega) only [Vc,go_sem,seval];refine cD ?_ ?_<;>intro h<;>simp (disch:=omega) only [Sh.out h,go_sem,seval,↓reduceIte]
  ·have hk2:k<a.slow.length:=Za
   have hp:=h3 _ (ZZ hk2);have hsn:=BL (t:=t) hk2;refine ZR ?_ ?_<;>intro h4
   ·rw [if_pos h4] at hsn;exact ⟨k+1,Za,Za,Weak.mk (by simp (disch:=omega) only [hsn,Int.add_assoc,go_sem,seval])⟩
   ·rw [if_neg h4] at hsn;exact ⟨k+1,Za,Za,Weak.mk (by simp (disch:=omega) only [hsn,go_sem,seval])⟩
  grind [IK]
theorem tI (n:Net) (pr f t:Int) (hn:n.arcs.length<=1048576):PT 238 [.p (Cb n),.p (.int .i64 pr),.p (.int .i64 f),.p (.int .i64 t)] [.p (VS (WX n pr f t).1),.p (.bool (WX n pr f t).2)]:=by
 refine Zf [] Tryz.func238 rfl ZbT ?_;simp (disch:=omega) only [Tryz.f238,go_sem,seval];refine Zl [8,10,18,19] (fun k:Nat=> [(20,.p (.int .i64 k))]) (fun _=>Z7 n++ [Vc Ue,.cells [.p (.int .i64 f),.p (.int .i64 t),.p (.int .i64 pr)]]) (fun k=>k<=n.arcs.length/\ ∀j,j<k->Vx pr f t (nth n.arcs j)=false) (fun k=>n.arcs.length-k) 0 Zb (Weak.mk ?_) ?_
 ·simp (disch:=omega) only [Z7,Vc,Ue,Zn,ZL,Zz,go_sem,seval]
 ·rintro k ⟨hk,hno⟩;simp (disch:=omega) only [Z7,Vc,Ue,Zn,ZL,Zz,go_sem,seval];refine cD ?_ ?_<;>intro h<;>simp (disch:=omega) only [Sh.out h,go_sem,seval,↓reduceIte]
  ·have hk2:k<n.arcs.length:=Za
   have nx:Vx pr f t (nth n.arcs k)=false-> ∀j,j<k+1->Vx pr f t (nth n.arcs j)=false:=fun h=>Zr.2 ⟨hno,h⟩;refine Xe (Zc ?_);refine Zo (vH (nth n.arcs k)) (Zc ?_);refine ZR ?_ ?_<;>intro h1
   ·have e:=MY hk2 hno (by simp [Vx,h1]);obtain ⟨rfl,rfl,rfl⟩:=h1;rw [e];exact we
   ·have e2:Vx pr f t (nth n.arcs k)=false:=by
     simp_all [Vx]
    exact ⟨k+1,⟨Za,nx e2⟩,Za,wk⟩
  ·have hkn:k=n.arcs.length:=Za
   subst hkn;rw [MZ hno];exact we (by simp (disch:=omega) only [Ue,Zn,go_sem,seval])
theorem xA (n:Net) (pr f t τ:Int) (hn:netR n) (hτ:0<=τ/\τ<=1073741824):PT 221 [.p (Cb n),.p (.int .i64 pr),.p (.int .i64 f),.p (.int .i64 t),.p (.int .i64 τ)] [.p (.int .i64 (WY n pr f t τ).1),.p (.int .i64 (WY n pr f t τ).2.1),.p (.int .i64 (WY n pr f t τ).2.2)]:=by
 refine Zf [] Tryz.func221 rfl ZbF ?_;simp (disch:=omega) only [Tryz.f221,go_sem,seval];refine (NQ n f hn.1).use (Zc ?_);refine gF ?_ ?_<;>intro h1<;>simp (disch:=omega) only [Sh.out h1,go_sem,seval,↓reduceIte]
 ·have e:WY n pr f t τ=(0,0,11):=by grind [WY]
  rw [e];exact we
 ·simp only [XP] at h1;refine (NQ n t hn.1).use (Zc ?_);refine cD ?_ ?_<;>intro h2<;>simp (disch:=omega) only [Sh.out h2,go_sem,seval]
  ·have e:WY n pr f t τ=(0,0,11):=by grind [WY]
   rw [e];exact we
  ·simp only [XP] at h2;refine cD ?_ ?_<;>intro h3<;>simp (disch:=omega) only [Sh.out h3,go_sem,seval,↓reduceIte]
   ·have e:WY n pr f t τ=(τ,0,0):=by grind [WY]
    rw [e];exact we
   ·have cf:=tI n pr f t hn.2.1;have hm:= @Ak n pr f t
    have e0:WY n pr f t τ=if (WX n pr f t).2=true then (IK (WX n pr f t).1 τ,(WX n pr f t).1.miles,0) else (0,0,12):=by grind [WY]
    rw [e0];generalize WX n pr f t=A at cf hm ⊢;obtain ⟨a,b⟩:=A;simp only at cf hm ⊢;refine Yi cf (Zc ?_);refine cD ?_ ?_<;>intro h4<;>simp (disch:=omega) only [Sh.out h4,go_sem,seval]
    ·have hb:b=false:=by grind
     subst hb;exact we (by simp (disch:=omega) only [go_sem,seval,↓reduceIte])
    ·have hb:b=true:=by grind
     subst hb;refine Xe (Zc ?_);refine Zo (tF a τ (hn.2.2 a (hm rfl)) hτ) (Zc ?_);exact we
def Fm (s:Stp) (a:Int):Int×Int:=if max a s.opn>s.cls then (0,14) else (max a s.opn,0)
theorem RI (s:Stp) (a:Int):PT 240 [.p (Fw s),.p (.int .i64 a)] [.p (.int .i64 (Fm s a).1),.p (.int .i64 (Fm s a).2)]:=by
 refine Zf [] Tryz.func240 rfl ZbV ?_;simp (disch:=omega) only [Tryz.f240,go_sem,seval];refine cD ?_ ?_<;>intro h<;>simp (disch:=omega) only [Sh.out h,go_sem,seval]
 ·have e:Fm s a=(0,14):=by simp_all [Fm]
  rw [e];exact we
 ·have e:Fm s a=(max a s.opn,0):=by simp_all [Fm]
  rw [e];exact we
theorem lV (l:List Ord) (c:Bool) (p:Int) (hl:l.length<=1048576):PC 188 [.p (.list c (l.map Yj)),.p (.int .i64 p)] (.bool (decide (0<=p)&&decide (p<(l.length:Int)))):=by
 refine Zd Tryz.func188 rfl jY ?_;simp (disch:=omega) only [Tryz.f188,go_sem,seval];refine gT ?_ ?_<;>intro h<;>simp (disch:=omega) only [Sh.out h,go_sem,seval,↓reduceIte]
 all_goals simp [h]
theorem SJ (x:Inst) (v:Vis) (ho:x.orders.length<=1048576) (hv:Nh x v=true) (hp:0<=(Xj x v).place):PT 193 [.p (.list x.orders_c (x.orders.map Yj)),.p (Z8 v)] [.p (Fw (Xj x v)),.p (.int .i64 0)]:=by
 refine Zf [] Tryz.func193 rfl Zbp ?_;simp (disch:=omega) only [Tryz.f193,go_sem,seval];have hv':=hv;rw [Nh] at hv';have ct:=lV x.orders x.orders_c v.order ho;rw [hv'] at ct;refine ct.use ?_;simp only [ZH,Zs] at hv';obtain ⟨h1,h2⟩:=hv'
 have hi:v.order.toNat<x.orders.length:=Za
 refine Zc ?_;refine cD ?_ ?_<;>intro hd<;>simp (disch:=omega) only [Sh.out hd,go_sem,seval,↓reduceIte]
 ·have e:Xj x v=(nth x.orders v.order.toNat).drp:=by simp [Xj,hd]
  rw [e] at hp ⊢
  have e3: ¬(nth x.orders v.order.toNat).drp.place<0:=Za
  simp (disch:=omega) only [e3,go_sem,seval];exact we
 ·have e:Xj x v=(nth x.orders v.order.toNat).pick:=by simp [Xj,hd]
  rw [e] at hp ⊢
  have e3: ¬(nth x.orders v.order.toNat).pick.place<0:=Za
  simp (disch:=omega) only [e3,go_sem,seval];exact we
theorem tH (l:List Typ) (c:Bool) (ht:l.length<=1048576):PC 274 [.p (.list c (l.map X4))] (.int .i64 (dimsOf l)):=by
 refine Zd Tryz.func274 rfl Zcr ?_;simp (disch:=omega) only [Tryz.f274,go_sem,seval];refine cD ?_ ?_<;>intro h1<;>simp (disch:=omega) only [Sh.out h1,go_sem,seval,↓reduceIte]
 ·grind [dimsOf]
 simp_all [dimsOf]
theorem tJ (a b:List Int) (c d:Bool) (ha:a.length<=1048576) (hb:b.length<=1048576):PC 255 [.p (.list c (a.map eI)),.p (.list d (b.map eI))] (.bool (VV a b)):=by
 refine Zd Tryz.func255 rfl Zb9 ?_;simp (disch:=omega) only [Tryz.f255,go_sem,seval];refine cD ?_ ?_<;>intro h1<;>simp (disch:=omega) only [Sh.out h1,go_sem,seval]
 ·grind [VV]
 ·have h1':a.length=b.length:=Za
  refine Zl [1,12,13] (fun k:Nat=> [(14,.p (.int .i64 k))]) (fun _=> []) (fun k=>k<=a.length/\ ∀j,j<k->nth a j<=nth b j) (fun k=>a.length-k) 0 Zb (Weak.mk ?_) ?_
  ·simp (disch:=omega) only [go_sem,seval]
  ·rintro k ⟨hk,hno⟩;refine Zc ?_;refine cD ?_ ?_<;>intro h2<;>simp (disch:=omega) only [Sh.out h2,go_sem,seval,↓reduceIte]
   ·have hk2:k<a.length:=Za
    refine ZR ?_ ?_<;>intro h3
    ·grind [VV]
    ·exact ⟨k+1,⟨Za,Zr.2 ⟨hno,Za⟩⟩,Za,wk⟩
   ·have hkl:k=a.length:=Za
    simp_all [VV]
theorem tE (t:Typ) (s:Int) (h1:t.skills<9223372036854775808) (h2:s<9223372036854775808):PC 251 [.p (X4 t),.p (.int .i64 s)] (.bool (Yk t s)):=by
 refine Zd Tryz.func251 rfl Zb5 ?_;simp (disch:=omega) only [Tryz.f251,go_sem,seval];refine gT ?_ ?_<;>intro c1<;>simp (disch:=omega) only [Sh.out c1,go_sem,seval,↓reduceIte]
 ·refine gT ?_ ?_<;>intro c2<;>simp (disch:=omega) only [Sh.out c2,go_sem,seval,↓reduceIte]
  ·obtain ⟨M,hM⟩: ∃M:Nat,t.skills=(M:Int):=⟨t.skills.toNat,Za⟩;obtain ⟨S,rfl⟩: ∃S:Nat,s=(S:Int):=⟨s.toNat,Za⟩;have hb:=D5 (S:=S) (M:=M) Za
   have e:Yk t (S:Int)=(List.range 63).all fun i=> !S.testBit i||M.testBit i:=by
    simp_all [Yk]
   have hd:decide (IntKind.i64.wrap ((BitVec.ofInt 64 (S:Int)&&& ~~~BitVec.ofInt 64 (M:Int)).toNat:Int)=0)=((List.range 63).all fun i=> !S.testBit i||M.testBit i):=by
    grind
   rw [e,hM];exact Zw (fun b=>V.p (PV.bool b)) hd
  grind [Yk]
 grind [Yk]
theorem Zdc (a b:Int) (h: -1073741824<=a/\a<=1073741824/\ -1073741824<=b/\b<=1073741824):PC 287 [.p (.int .i64 a),.p (.int .i64 b)] (.int .i64 (a+b)):=by
 refine Zd Tryz.func287 rfl ZcE ?_;simp (disch:=omega) only [Tryz.f287,go_sem,seval]
theorem sM (a b:Int) (h: -1073741824<=a/\a<=1073741824/\ -1073741824<=b/\b<=1073741824):PC 288 [.p (.int .i64 a),.p (.int .i64 b)] (.int .i64 (a-b)):=by
 refine Zd Tryz.func288 rfl ZcF ?_;simp (disch:=omega) only [Tryz.f288,go_sem,seval]
def dS (f:Nat->Int) (n k:Nat):List Int:=(List.range n).map fun j=>if j<k then f j else 0
theorem sN {f:Nat->Int} {n k:Nat} :(dS f n k).length=n:=by simp [dS]
theorem kQ {f:Nat->Int} {n:Nat} :dS f n 0=List.replicate n 0:=by
 apply Jc (by simp [dS]);grind [dS]
theorem kP {f:Nat->Int} {n:Nat} :dS f n n=(List.range n).map f:=by
 simp_all [dS]
theorem sO {f:Nat->Int} {n k:Nat} (h:k<n):(dS f n k).set k (f k)=dS f n (k+1):=by
 apply Jc (by simp [dS]);grind [dS]
theorem Hr (a b:List Int) (c d:Bool) (g:FuncId) (f:Int->Int->Int) (hl:a.length=b.length) (ha:a.length<=1048576)
  (hf: ∀j,j<a.length->ACalls Tryz.prog g [.p (.int .i64 (nth a j)),.p (.int .i64 (nth b j))] [] fun x H'=>x= .p (.int .i64 (f (nth a j) (nth b j)))/\H'= []) :
  PT 286 [.p (.list c (a.map eI)),.p (.list d (b.map eI)),.fn (.func g) [] []] [.p (.list false (((List.range a.length).map fun j=>f (nth a j) (nth b j)).map eI)),.p (.int .i64 0)]:=by
 refine Zf [9] Tryz.func286 rfl ZcD ?_;simp (disch:=omega) only [Tryz.f286,go_sem,seval];refine cD ?_ ?_<;>intro h0<;>simp (disch:=omega) only [Sh.out h0,go_sem,seval]
 ·omega
 ·have hz:=kQ (f:=fun j=>f (nth a j) (nth b j)) (n:=a.length);have hml:=fun k=>sN (f:=fun j=>f (nth a j) (nth b j)) (n:=a.length) (k:=k);refine Z0 [9] [0,1,2,8,19] (fun k:Nat=> [(20,.p (.int .i64 k))]) (fun k=> [.elems 1 ((dS (fun j=>f (nth a j) (nth b j)) a.length k).map eI)]) (fun k=>k<=a.length) (fun k=>a.length-k) 0 Zb (Weak.mk ?_) ?_
  ·simp (disch:=omega) only [hz,go_sem,seval];rw [Av];rfl
  ·intro k hk;refine Zc ?_;refine cD ?_ ?_<;>intro h1<;>simp (disch:=omega) only [Sh.out h1,go_sem,seval,↓reduceIte]
   ·have hk2:k<a.length:=Za
    have hs:=sO (f:=fun j=>f (nth a j) (nth b j)) (n:=a.length) hk2;have hk3:=hml k;refine ZC 12 mixed Ze Ze ?_;refine Zc ?_;refine Zo (hf k hk2) ?_;refine Zc ?_;simp (disch:=first | omega | (simp only [ZD,ZF,ZG,ZY,Xh,XI]<;>omega)) only [go_sem,seval,↓reduceIte];refine ⟨k+1,Za,Za,Weak.mk ?_⟩;simp (disch:=omega) only [<- hs,go_sem,seval];rw [V4];rfl
   ·have hkl:k=a.length:=Za
    subst hkl;rw [<- kP];have hk3:=hml a.length;refine Zp (Weak.fz (o:=0) (by rfl)) ?_;refine Zg [] _ _ _ _ ?_;simp (disch:=omega) only [Zq,Zn,ZW,go_sem,seval];rw [if_pos hk3];exact we
theorem lL (a b:List Int) (c d:Bool) (hl:a.length=b.length) (ha:a.length<=1048576) (h: ∀j,j<a.length-> -1073741824<=nth a j/\nth a j<=1073741824/\ -1073741824<=nth b j/\nth b j<=1073741824):PT 275 [.p (.list c (a.map eI)),.p (.list d (b.map eI))] [.p (.list false ((E7 a b).map eI)),.p (.int .i64 0)]:=by
 refine Zf [] Tryz.func275 rfl Zcs ?_;simp (disch:=omega) only [Tryz.f275,go_sem,seval];refine Yi (Hr a b c d 287 (fun m n=>m+n) hl ha fun j hj=>Zdc _ _ (h j hj)) ?_;simp (disch:=omega) only [E7,go_sem,seval];exact we
theorem Zc9 (a b:List Int) (c d:Bool) (hl:a.length=b.length) (ha:a.length<=1048576) (h: ∀j,j<a.length-> -1073741824<=nth a j/\nth a j<=1073741824/\ -1073741824<=nth b j/\nth b j<=1073741824):PT 276 [.p (.list c (a.map eI)),.p (.list d (b.map eI))] [.p (.list false ((uR a b).map eI)),.p (.int .i64 0)]:=by
 refine Zf [] Tryz.func276 rfl Zct ?_;simp (disch:=omega) only [Tryz.f276,go_sem,seval];refine Yi (Hr a b c d 288 (fun m n=>m-n) hl ha fun j hj=>sM _ _ (h j hj)) ?_;simp (disch:=omega) only [uR,go_sem,seval];exact we
theorem lQ (x:Inst) (r:Rte) (ht:0<=r.typ/\r.typ<(x.types.length:Int)) (hv: ∀v∈r.visits,Nh x v=true) (hl:r.visits.length<=1048576) (hxl:x.types.length<=1048576) (hol:x.orders.length<=1048576)
  (hs:(ZE x r).skills<9223372036854775808) (ho: ∀o∈x.orders,o.skills<9223372036854775808) :
  PC 230 [.p (Zv x),.p (Wy r)] (.int .i64 (if (r.visits.any fun v=> !Yk (ZE x r) (nth x.orders v.order.toNat).skills)=true then 18 else 0)):=by
 refine Zd Tryz.func230 rfl ZbL ?_;simp (disch:=omega) only [Tryz.f230,go_sem,seval];refine Zl [2,3,8,9] (fun k:Nat=> [(10,.p (.int .i64 k))]) (fun _=> [Zi x,.cells [.p (.int .i64 r.typ),.p (.int .i64 r.start),.p (.list r.rests_c (r.rests.map eB)),.p (.list r.visits_c (r.visits.map Z8))]]) (fun k=>k<=r.visits.length/\ ∀j,j<k->Yk (ZE x r) (nth x.orders (nth r.visits j).order.toNat).skills=true) (fun k=>r.visits.length-k) 0 Zb (Weak.mk ?_) ?_
 ·simp (disch:=omega) only [Zi,go_sem,seval]
 ·rintro k ⟨hk,hno⟩;refine Ya ?_;refine cD ?_ ?_<;>intro h1<;>simp (disch:=omega) only [Sh.out h1,go_sem,seval,↓reduceIte]
  ·have hk2:k<r.visits.length:=Za
   have hin:=hv _ (ZZ hk2);simp only [Nh,ZH,Zs] at hin;obtain ⟨i1,i2⟩:=hin
   have hi:(nth r.visits k).order.toNat<x.orders.length:=Za
   have ho':=ho _ (ZZ hi);refine Xe (Zc ?_);refine Zo (tE (ZE x r) (nth x.orders (nth r.visits k).order.toNat).skills Za Za) (Zc ?_);refine ZR ?_ ?_<;>intro h2
   ·have:(r.visits.any fun v=> !Yk (ZE x r) (nth x.orders v.order.toNat).skills)=true:=by
     grind [ZZ]
    grind
   ·exact ⟨k+1,⟨Za,Zr.2 ⟨hno,by grind⟩⟩,Za,wk⟩
  ·have: ¬(r.visits.any fun v=> !Yk (ZE x r) (nth x.orders v.order.toNat).skills)=true:=by
    rw [WH];rintro ⟨v,hv,e⟩;obtain ⟨j,hj,rfl⟩:=ZN.1 hv
    grind [Zh]
   grind
def S0 (x:Inst) (d:Nat) (ms:List Int) (k:Nat):List Int:=(ms.take k).foldl (fun s i=>if (nth x.orders i.toNat).pick.place<0 then E7 s (nth x.orders i.toNat).load else s) (List.replicate d 0)
theorem On {x:Inst} {d:Nat} {ms:List Int} {k:Nat} (h:k<ms.length):S0 x d ms (k+1)=if (nth x.orders (nth ms k).toNat).pick.place<0 then E7 (S0 x d ms k) (nth x.orders (nth ms k).toNat).load else S0 x d ms k:=by
 grind [S0,X0,Zh]
theorem S1 {x:Inst} {d:Nat} {ms:List Int} (hms: ∀i∈ms,∀j,j<d->0<=nth (nth x.orders i.toNat).load j/\nth (nth x.orders i.toNat).load j<=1000): ∀k,k<=ms.length->(S0 x d ms k).length=d/\ ∀j,j<d->0<=nth (S0 x d ms k) j/\nth (S0 x d ms k) j<=1000*k
 | 0,_=>by
  grind [S0,Zh]
 | k+1,h=>by
  obtain ⟨h1,h2⟩:=S1 hms k Za;rw [On Za]
  split
  ·refine ⟨by simp [E7,h1],fun j hj=> ?_⟩;have a1:=h2 j hj;have a2:=hms _ (ZZ (show k<ms.length by omega)) j hj;rw [E7,KR Za];omega
  ·exact ⟨h1,fun j hj=>by have:=h2 j hj;omega⟩
theorem uP (x:Inst) (S:Int) (d:Nat) (hd:d<=3) (hol:x.orders.length<=1048576) (hms: ∀i∈X3 S 63,0<=i/\i<(x.orders.length:Int)) (hml:(X3 S 63).length<=63)
  (hld: ∀o∈x.orders,o.load.length=d/\ ∀n∈o.load,0<=n/\n<=1000) :
  PC 273 [.p (Zv x),.p (.int .i64 S),.p (.int .i64 (d:Int))] (.list false ((S0 x d (X3 S 63) (X3 S 63).length).map eI)):=by
 have hmo: ∀i∈X3 S 63,i.toNat<x.orders.length:=fun i hi=>by grind
 have hrg:=S1 (x:=x) (d:=d) (ms:=X3 S 63) fun i hi j hj=>by
  grind [ZZ]
 refine Zd Tryz.func273 rfl Zcq ?_;simp (disch:=omega) only [Tryz.f273,go_sem,seval];refine (DB S).useF (Zc ?_);refine Zp ((Weak.fz (o:=1) (by rfl)).trans (Weak.fz (o:=2) (by rfl))) ?_;simp (disch:=omega) only [Zq,Zn,Z1,ZW,CB,eq_self,go_sem,seval]
 have hz:List.replicate d (PV.int .i64 0)=(S0 x d (X3 S 63) 0).map eI:=by
  show _=(List.replicate d 0).map eI
  rw [Av];rfl
 refine Zl [3,13,14] (fun k:Nat=> [(7,.p (.list false ((S0 x d (X3 S 63) k).map eI))),(15,.p (.int .i64 k))]) (fun _=> [Zi x,.dead,.dead]) (fun k=>k<=(X3 S 63).length) (fun k=>(X3 S 63).length-k) 0 Zb (Weak.mk ?_) ?_
 ·simp (disch:=omega) only [Zi,hz,go_sem,seval]
 ·intro k hk;have hk1:=hrg k hk;have hsn:=fun h=>On (x:=x) (d:=d) (ms:=X3 S 63) (k:=k) h;refine Ya ?_;refine cD ?_ ?_<;>intro h1<;>simp (disch:=omega) only [Sh.out h1,go_sem,seval,↓reduceIte]
  ·have hk2:k<(X3 S 63).length:=Za
   have hm:=hms _ (ZZ hk2);have hi:=hmo _ (ZZ hk2);have hlo:=hld _ (ZZ hi);have hsn:=hsn hk2;refine Zc ?_;refine ZR ?_ ?_<;>intro h2
   ·rw [if_pos h2] at hsn;refine Yi (lL (S0 x d (X3 S 63) k) (nth x.orders (nth (X3 S 63) k).toNat).load false (nth x.orders (nth (X3 S 63) k).toNat).load_c Za Za fun j hj=> ?_) ?_
    ·have b1:=hk1.2 j Za;have b2:=hlo.2 _ (ZZ (show j<(nth x.orders (nth (X3 S 63) k).toNat).load.length by omega));omega
    ·refine Zc ?_;exact ⟨k+1,Za,Za,Weak.mk (by simp (disch:=omega) only [hsn,go_sem,seval])⟩
   ·rw [if_neg h2] at hsn;exact ⟨k+1,Za,Za,Weak.mk (by simp (disch:=omega) only [hsn,go_sem,seval])⟩
  grind
theorem Pv {p:Nat->Bool} {n:Nat} (h: ∀i,n<=i->p i=false): ∀k,n<=k->(List.range k).filter p=(List.range n).filter p:=by
 intro k hk
 induction k with
 | zero=>grind
 | succ k ih =>
  grind [Ye]
theorem Zjw {x:Inst} {l:List Vis} (hi:Inr x l) (hn:x.orders.length<=10):X3 ((Xt l:Nat):Int) 63=((List.range x.orders.length).filter fun (i:Nat)=>hasO l (i:Int)).map fun (i:Nat)=>(i:Int):=by
 have key: ∀i:Nat,i<=62->sHas ((Xt l:Nat):Int) (i:Int)=hasO l (i:Int):=fun i h=>by
  rw [WK _ _ h,Wp,CR,W6]
  constructor
  ·rintro ⟨v,hv,e⟩;exact ⟨v,hv,by have:=hi v hv;omega⟩
  grind
 unfold X3;rw [Ax (q:=fun (i:Nat)=>hasO l (i:Int)) (fun i hm=>key i (by grind)),Pv (n:=x.orders.length) (fun i h=> ?_) 63 Za]
 cases hh:hasO l (i:Int) with
 | false=>rfl
 | true =>
  obtain ⟨v,hv,e⟩:=W6.1 hh;have:=hi v hv;omega
theorem jC {x:Inst} {d:Nat} : ∀(L:List Nat) (g:Nat->Int),(L.map fun (i:Nat)=>(i:Int)).foldl (fun s (i:Int)=>if (nth x.orders i.toNat).pick.place<0 then E7 s (nth x.orders i.toNat).load else s) ((List.range d).map g)=(List.range d).map fun j=>g j+(L.map fun i=>if (nth x.orders i).pick.place<0 then nth (nth x.orders i).load j else 0).sum
 | [],g=>Zb
 | i::L,g=>by
  rw [Zq,XR,XY]
  by_cases h:(nth x.orders i).pick.place<0
  ·have e:E7 ((List.range d).map g) (nth x.orders i).load=(List.range d).map fun j=>g j+nth (nth x.orders i).load j:=by
    grind [E7,W0,KR]
   rw [if_pos h,e,jC L]
   grind
  ·rw [if_neg h,jC L]
   grind
theorem cZ {x:Inst} {l:List Vis} (hi:Inr x l) (hn:x.orders.length<=10):S0 x (dimsOf x.types).toNat (X3 ((Xt l:Nat):Int) 63) (X3 ((Xt l:Nat):Int) 63).length=Wf x l 0:=by
 rw [S0,Yd,Zjw hi hn];have:=jC (x:=x) (d:=(dimsOf x.types).toNat) ((List.range x.orders.length).filter fun (i:Nat)=>hasO l (i:Int)) fun _=>0
 have e:(List.range (dimsOf x.types).toNat).map (fun _=>(0:Int))=List.replicate (dimsOf x.types).toNat 0:=by
  simp_all [List.map_const']
 rw [e] at this;rw [this,Wf];refine W0 fun j _=> ?_;rw [Int.zero_add,Kf,DX]
 congr 1
 refine W0 fun i _=> ?_
 grind [lE]
theorem nR {x:Inst} {l:List Vis} {n j:Nat} {d:Nat} (hj:j<d) (hld: ∀o∈x.orders,o.load.length=d/\ ∀n∈o.load,0<=n/\n<=1000) (hn:x.orders.length<=10):0<=DX x l n j/\DX x l n j<=10000:=by
 have key:=S4 (f:=fun i=>if i<x.orders.length then (if (EQ x l n i&&hasO l i)=true then nth (nth x.orders i).load j else 0) else 0) (b:=1000) Za (fun q=>by
  grind [ZZ]) x.orders.length
 have e:DX x l n j=((List.range x.orders.length).map fun i=>if i<x.orders.length then (if (EQ x l n i&&hasO l i)=true then nth (nth x.orders i).load j else 0) else 0).sum:=by
  simp_all [DX,W0]
 omega
theorem eX {x:Inst} {l:List Vis} {n j:Nat} (hj:j<(dimsOf x.types).toNat) (hd:LdOk x):0<=nth (Wf x l n) j/\nth (Wf x l n) j<=10000:=by
 rw [Wf,KR hj];exact nR hj (fun o ho=>by obtain ⟨h1,h2⟩:=hd.load o ho;grind) hd.ord
def wM {α:Type} (f:α->Bool) (l:List α):Int:=match l.findIdx? f with | some i=>(i:Int) | none=> -1
theorem jE {α:Type} [Inhabited α] {f:α->Bool} {l:List α} {k:Nat} (hk:k<l.length) (h:f (nth l k)=true) (hno: ∀j,j<k->f (nth l j)=false):wM f l=(k:Int):=by
 have:l.findIdx? f=some k:=by
  grind [UE,Zh]
 simp [wM,this]
theorem jG {α:Type} [Inhabited α] {f:α->Bool} {l:List α} (hno: ∀j,j<l.length->f (nth l j)=false):wM f l= -1:=by
 have:l.findIdx? f=none:=by
  rw [List.findIdx?_eq_none_iff];intro x hx;obtain ⟨j,hj,rfl⟩:=ZN.1 hx
  grind [Zh]
 simp [wM,this]
theorem jF {α:Type} {f:α->Bool} {l:List α} :decide (0<=wM f l)=l.any f:=by
 grind [wM]
theorem aI (l:List (List Int)) (c:Bool) (g:FuncId) (caps:List V) (H:List AM.Obj) (f:List Int->Bool) (hl:l.length<=1048576) (hW:OG H H.length H H) (hc:Xn H.length caps=true)
  (hg: ∀v∈l,ACalls Tryz.prog g (.p (oQ v)::caps) H fun x H'=>x= .p (.bool (f v))/\H'=H) :
  ACalls Tryz.prog 277 [.p (.list c (l.map oQ)),.fn (.func g) [] caps] H fun x H'=>x= .p (.int .i64 (wM f l))/\H'=H:=by
 refine YT Tryz.func277 rfl Zcu (Zg [] _ _ _ _ ?_);simp (disch:=omega) only [Tryz.f277,go_sem,seval];refine Zl [0,1,7] (fun k:Nat=> [(8,.p (.int .i64 k))]) (fun _=>H) (fun k=>k<=l.length/\ ∀j,j<k->f (nth l j)=false) (fun k=>l.length-k) 0 Zb (Weak.mk ?_) ?_
 ·simp (disch:=omega) only [hW,hc,go_sem,seval];simp
 ·rintro k ⟨hk,hno⟩;refine Zc ?_;refine cD ?_ ?_<;>intro h<;>simp (disch:=omega) only [Sh.out h,go_sem,seval,↓reduceIte]
  ·have hk2:k<l.length:=Za
   have hgk:=hg (nth l k) (Zt hk2);simp (disch:=omega) only [Zac,go_sem,seval] at hgk;refine hgk.useH (Zc ?_);refine cD ?_ ?_<;>intro h2<;>simp (disch:=omega) only [Sh.out h2,go_sem,seval,↓reduceIte]
   ·grind [jE]
   ·have h3:f (nth l k)=false:=Za
    refine ⟨k+1,⟨Za,Zr.2 ⟨hno,h3⟩⟩,Za,Weak.mk ?_⟩;simp (disch:=omega) only [hW,hc,go_sem,seval];simp
  grind [jG]
theorem I5 (l:List (List Int)) (c:Bool) (g:FuncId) (caps:List V) (H:List AM.Obj) (f:List Int->Bool) (hl:l.length<=1048576) (hW:OG H H.length H H) (hc:Xn H.length caps=true)
  (hg: ∀v∈l,ACalls Tryz.prog g (.p (oQ v)::caps) H fun x H'=>x= .p (.bool (f v))/\H'=H) :
  ACalls Tryz.prog 253 [.p (.list c (l.map oQ)),.fn (.func g) [] caps] H fun x H'=>x= .p (.bool (l.any f))/\H'=H:=by
 refine YT Tryz.func253 rfl Zb7 (Zg [] _ _ _ _ ?_);simp (disch:=omega) only [Tryz.f253,go_sem,seval];refine (aI l c g caps H f hl hW hc hg).useH (Zc ?_);rw [jF]
theorem lS (x:Inst) (r:Rte) (hx:InstOk x) (hl:r.visits.length<=1048576):PC 229 [.p (Zv x),.p (Wy r)] (.int .i64 (Xg x r.visits)):=by
 have hf:=XK hx;obtain ⟨h1,h2⟩:=V3.1 hx.rules
 have ha:x.apart.length<=1048576:=by
  have h3:=(V3.1 h1).1
  grind [G6]
 have hb:x.before.length<=1048576:=by
  have h3:=(V3.1 h2).1
  grind [G6]
 exact Rg x r (by have:=hf.len;omega) hl ha hb
theorem tD {x:Inst} {l:List Vis} (hi:Inr x l) (hn:x.orders.length<=10):Jd l=(((Xt l:Nat):Int),0):=by
 rw [Jd,if_pos];rw [ZA];intro v hv;have:=hi v hv;simp [G7];omega
theorem Zp9 {α:Type} (f:Nat->α) (n:Nat):(List.range n).map f++ [f n]=(List.range (n+1)).map f:=by grind [Ye]
theorem lP (x:Inst) (r:Rte) (hx:InstOk x) (hl:r.visits.length<=1048576) (h0:Xg x r.visits=0) :
  PT 252 [.p (Zv x),.p (Wy r)] [.p (.list false ((QL x r.visits).map oQ)),.p (.int .i64 0)]:=by
 have hd:=QG hx;have hsq:=VO h0;have hol:=hd.ord;have hso:=Oc r hl;rw [tD hsq.inr hol] at hso
 have hD:dimsOf x.types=((dimsOf x.types).toNat:Int):=by have:=hd.dim;omega
 have cd:=tH x.types x.types_c hd.typ;rw [hD] at cd;have hst:=cZ hsq.inr hol
 have hmem: ∀i∈X3 ((Xt r.visits:Nat):Int) 63,0<=i/\i<(x.orders.length:Int):=fun i hi=>by
  rw [Zjw hsq.inr hol] at hi
  grind
 have cs:=uP x ((Xt r.visits:Nat):Int) (dimsOf x.types).toNat (by have:=hd.dim;omega) Za hmem (CK _ _) (fun o ho=>by have:=hd.load o ho;grind);rw [hst] at cs;refine Zf [20] Tryz.func252 rfl Zb6 ?_;simp (disch:=omega) only [Tryz.f252,go_sem,seval];refine (lS x r hx hl).use (Zc ?_);simp (disch:=omega) only [h0,go_sem,seval];refine Yi hso (Zc ?_);refine Xe (Zc ?_);refine Zo (cd) (Zc ?_);refine Zo (cs) (Zc ?_);refine Z0 [20] [2,37,38] (fun q:Nat×List (List Int)=> [(9,.p (.list false ((Wf x r.visits q.1).map eI))),(10,.sl 2 0 q.2.length q.2.length),(39,.p (.int .i64 q.1))]) (fun q=> [Zi x,Xu r,.elems 1 (q.2.map oQ)]) (fun q=>q.1<=r.visits.length/\q.2=(List.range (q.1+1)).map (Wf x r.visits)) (fun q=>r.visits.length-q.1) (0,[Wf x r.visits 0]) Zb (Weak.mk ?_) ?_
 ·simp (disch:=omega) only [Zi,Xu,Zn,Zq,ZF,ZD,go_sem,seval]
 ·rintro ⟨k,o⟩ ⟨hk,ho⟩;simp only at hk ho
  have hol2:o.length=k+1:=by rw [ho];simp
  refine K4 ?_;refine cD ?_ ?_<;>intro h1<;>simp (disch:=omega) only [Sh.out h1,go_sem,seval,↓reduceIte]
  ·have hk2:k<r.visits.length:=Za
   obtain ⟨v1,v2⟩:=hsq.inr _ (Zt hk2)
   have hi:(nth r.visits k).order.toNat<x.orders.length:=Za
   obtain ⟨l1,l2⟩:=hd.load _ (ZZ hi);have hsu:=To hsq hk2;have hal:=E8 (x:=x) (l:=r.visits) (n:=k);have hdm:=hd.dim
   have hrg: ∀j,j<(Wf x r.visits k).length-> -1073741824<=nth (Wf x r.visits k) j/\nth (Wf x r.visits k) j<=1073741824/\ -1073741824<=nth (nth x.orders (nth r.visits k).order.toNat).load j/\nth (nth x.orders (nth r.visits k).order.toNat).load j<=1073741824:=fun j hj=>by
    have b1:=eX (x:=x) (l:=r.visits) (n:=k) (j:=j) Za hd
    grind [ZZ]
   refine cD ?_ ?_<;>intro h2<;>simp (disch:=omega) only [Sh.out h2,go_sem,seval,↓reduceIte]
   ·rw [if_pos h2] at hsu;refine Yi (Zc9 (Wf x r.visits k) (nth x.orders (nth r.visits k).order.toNat).load false (nth x.orders (nth r.visits k).order.toNat).load_c Za Za hrg) (Zc ?_);exact ⟨(k+1,o++ [Wf x r.visits (k+1)]),⟨Za,by grind⟩,Za,Weak.mk (by simp (disch:=omega) only [hsu,ZG,ZD,ZF,Xs,Zq,Zn,go_sem,seval])⟩
   ·rw [if_neg (by rw [h2];simp)] at hsu;refine Yi (lL (Wf x r.visits k) (nth x.orders (nth r.visits k).order.toNat).load false (nth x.orders (nth r.visits k).order.toNat).load_c Za Za hrg) (Zc ?_);exact ⟨(k+1,o++ [Wf x r.visits (k+1)]),⟨Za,by grind⟩,Za,Weak.mk (by simp (disch:=omega) only [hsu,ZG,ZD,ZF,Xs,Zq,Zn,go_sem,seval])⟩
  ·have hkl:k=r.visits.length:=Za
   subst hkl;refine Zp (Weak.fz (o:=2) (by rfl)) (Zg [] _ _ _ _ (US ?_));rw [QL,<- ho];exact we
theorem rR (x:Inst) (r:Rte) (a:List Int) (htl:x.types.length<=1048576) (hty:0<=r.typ/\r.typ<(x.types.length:Int)) (ha:a.length<=1048576) (hc:(ZE x r).cap.length<=1048576) :
  ACalls Tryz.prog 254 [.p (oQ a),.ptr 0 0,.ptr 1 0] [Zi x,Xu r] fun y H'=>y= .p (.bool (!VV a (ZE x r).cap))/\H'= [Zi x,Xu r]:=by
 have hti:r.typ.toNat<x.types.length:=Za
 refine Zf [] Tryz.func254 rfl Zb8 ?_;simp (disch:=omega) only [Tryz.f254,Zi,Xu,go_sem,seval];refine (tJ a (ZE x r).cap false (ZE x r).cap_c ha hc).use (Zc ?_);exact we
theorem lM (x:Inst) (r:Rte) (hx:InstOk x) (hl:r.visits.length<=1048576) (hty:0<=r.typ/\r.typ<(x.types.length:Int)) (h0:Xg x r.visits=0) :
  PC 231 [.p (Zv x),.p (Wy r)] (.int .i64 (if Qn x (ZE x r).cap r.visits=true then 0 else 17)):=by
 have hd:=QG hx;have htl:=hd.typ
 have hti:r.typ.toNat<x.types.length:=Za
 have hcp:(ZE x r).cap.length<=1048576:=by
  have hcap:=hx.types.2 _ hti;unfold Ux at hcap;obtain ⟨⟨⟨⟨⟨⟨⟨⟨_,_⟩,_⟩,_⟩,hcap⟩,_⟩,_⟩,_⟩,_⟩:=hcap;simp only [Vy,ZH,Zs,rng] at hcap;unfold ZE;omega
 have hll:(QL x r.visits).length=r.visits.length+1:=by simp [QL]
 have hvl:=(VO h0).len hd.ord
 have hall:(QL x r.visits).any (fun a=> !VV a (ZE x r).cap)= !Qn x (ZE x r).cap r.visits:=by
  grind [Qn,QL]
 have e1: ¬r.typ<0:=Za
 have e2: ¬(x.types.length:Int)<=r.typ:=Za
 refine Zd Tryz.func231 rfl ZbM ?_;simp (disch:=omega) only [Tryz.f231,e1,e2,go_sem,seval];refine Yi (lP x r hx hl h0) (Zc ?_);refine (I5 (QL x r.visits) false 254 [.ptr 0 0,.ptr 1 0] [Zi x,Xu r] (fun a=> !VV a (ZE x r).cap) Za (by simp (disch:=omega) only [Zi,Xu,go_sem,seval]) (by rfl) (fun a ha=>rR x r a htl hty ?_ hcp)).useH ?_
 ·obtain ⟨j,_,rfl⟩:=XC.1 ha;rw [E8];have:=hd.dim;omega
 ·refine K4 ?_;rw [hall];refine cD ?_ ?_<;>intro h1<;>simp (disch:=omega) only [Sh.out h1,go_sem,seval]
  ·grind
  grind
theorem GY (l:List Int) (c:Bool) (hl:l.length<=1048576):ACalls Tryz.prog 94 [.p (.list c (l.map eI))] [] fun y H'=>y= .sl 0 0 l.length l.length/\H'= [.elems 1 (l.map eI)]:=by
 refine Zf [1] Tryz.func94 rfl Zjl ?_;simp (disch:=omega) only [Tryz.f94,go_sem,seval];refine YI (Fj (e:=3) (cl:=c) (xs:=l.map eI) Tryz.underlying34 (by rfl) Zb fun b hb=> ?_);refine Zg [] _ _ _ _ ?_;simp (disch:=omega) only [go_sem,seval];refine cD ?_ ?_<;>intro h<;>simp (disch:=omega) only [Sh.out h,go_sem,seval]
 ·have:l= []:=by simpa using hb h
  subst this;exact ⟨_,_,Weak.nil 0 1 rfl Zb,rfl,rfl⟩
 ·refine Zg [] _ _ _ _ ?_;simp (disch:=omega) only [go_sem,seval];exact we
theorem Ad {P:Program} {e:TypeId} {k:Nat} {cs:List PV} {kk:IntKind} {n:Int} {x:PV} (h0:0<=n) (h1:n<k) (hx:apart P e cs n.toNat=some x) (ht:YZ P e=some 1):Mp P (some (.array k e)) (.p (.agg cs)) (.p (.int kk n))=some (.p x):=by
 simp_all [Mp]
def Zhr (s:Sco):PV:= .agg [.int .i64 s.cost,.int .i64 s.moved,.int .i64 s.other,.int .i64 s.work]
@[go_sem] theorem Zlw (s:Sco):Zhr s= .agg [.int .i64 s.cost,.int .i64 s.moved,.int .i64 s.other,.int .i64 s.work]:=Zk rfl rfl
theorem lU (s:Sco):PC 201 [.p (Er s)] (Zhr s):=by
 refine Zf [] Tryz.func201 rfl Zbw ?_;simp (disch:=omega) only [Tryz.f201,go_sem,seval];exact we
def scoR (B:Int) (s:Sco):Prop:=(-B<=s.cost/\s.cost<=B)/\(-B<=s.moved/\s.moved<=B)/\(-B<=s.other/\s.other<=B)/\(-B<=s.work/\s.work<=B)
def pK (s:Sco):AM.Obj:= .cells [.p (.int .i64 s.cost),.p (.int .i64 s.moved),.p (.int .i64 s.other),.p (.int .i64 s.work)]
def YA (s:Sco):Int×Int:=if s.cost<0\/s.moved<0\/s.other<0\/s.work<0 then (0,2) else if 1073741824<s.cost\/16<=s.moved\/16<=s.other\/65536<=s.work then (0,4) else (((s.cost*16+s.moved)*16+s.other)*65536+s.work,0)
theorem HU (s:Sco) (hs:scoR 1152921504606846976 s):PT 168 [.p (Er s)] [.p (.int .i64 (YA s).1),.p (.int .i64 (YA s).2)]:=by
 obtain ⟨a1,a2,a3,a4⟩:=hs;refine Zf [] Tryz.func168 rfl Za6 ?_;simp (disch:=omega) only [Tryz.f168,go_sem,seval];refine (lU s).use (Zc ?_);refine Zl [1,9] (fun k:Nat=> [(10,.p (.int .i64 k))]) (fun _=> [pK s,pK s]) (fun k=>k<=4/\(0<k->0<=s.cost)/\(1<k->0<=s.moved)/\(2<k->0<=s.other)/\(3<k->0<=s.work)) (fun k=>4-k) 0 ⟨Za,Za,Za,Za,Za⟩ (Weak.mk ?_) ?_
 ·simp (disch:=omega) only [pK,go_sem,seval]
 ·rintro k ⟨hk,k1,k2,k3,k4⟩;simp (disch:=omega) only [pK,go_sem,seval];refine cD ?_ ?_<;>intro h1<;>simp (disch:=omega) only [Sh.out h1,go_sem,seval,↓reduceIte]
  ·have:k=0\/k=1\/k=2\/k=3:=Za
   rcases this with rfl | rfl | rfl | rfl
   ·rw [Ad (x:= .int .i64 s.cost) Za Za (by rfl) Ze];refine Zc ?_;refine ZR ?_ ?_<;>intro h2
    ·have e:YA s=(0,2):=by simp_all [YA]
     rw [e];exact we
    ·exact ⟨1,⟨Za,fun _=>Za,Za,Za,Za⟩,Za,wk⟩
   ·rw [Ad (x:= .int .i64 s.moved) Za Za (by rfl) Ze];refine Zc ?_;refine ZR ?_ ?_<;>intro h2
    ·have e:YA s=(0,2):=by simp_all [YA]
     rw [e];exact we
    ·exact ⟨2,⟨Za,fun _=>k1 Za,fun _=>Za,Za,Za⟩,Za,wk⟩
   ·rw [Ad (x:= .int .i64 s.other) Za Za (by rfl) Ze];refine Zc ?_;refine ZR ?_ ?_<;>intro h2
    ·have e:YA s=(0,2):=by simp_all [YA]
     rw [e];exact we
    ·exact ⟨3,⟨Za,fun _=>k1 Za,fun _=>k2 Za,fun _=>Za,Za⟩,Za,wk⟩
   ·rw [Ad (x:= .int .i64 s.work) Za Za (by rfl) Ze];refine Zc ?_;refine ZR ?_ ?_<;>intro h2
    ·have e:YA s=(0,2):=by simp_all [YA]
     rw [e];exact we
    ·exact ⟨4,⟨Za,fun _=>k1 Za,fun _=>k2 Za,fun _=>k3 Za,fun _=>Za⟩,Za,wk⟩
  ·have hk4:k=4:=Za
   subst hk4;have g1:=k1 Za;have g2:=k2 Za;have g3:=k3 Za;have g4:=k4 Za
   have n1: ¬(s.cost<0\/s.moved<0\/s.other<0\/s.work<0):=Za
   have bad:(1073741824<s.cost\/16<=s.moved\/16<=s.other\/65536<=s.work)->YA s=(0,4):=fun h=>by simp_all [YA]
   refine gF ?_ ?_<;>intro h2<;>simp (disch:=omega) only [Sh.out h2,go_sem,seval,↓reduceIte]
   ·rw [bad Za];exact we
   ·refine gF ?_ ?_<;>intro h3<;>simp (disch:=omega) only [Sh.out h3,go_sem,seval,↓reduceIte]
    ·rw [bad Za];exact we
    ·refine gF ?_ ?_<;>intro h4<;>simp (disch:=omega) only [Sh.out h4,go_sem,seval,↓reduceIte]
     ·rw [bad Za];exact we
     ·refine cD ?_ ?_<;>intro h5<;>simp (disch:=omega) only [Sh.out h5,go_sem,seval,↓reduceIte]
      ·rw [bad Za];exact we
      ·have e:YA s=(((s.cost*16+s.moved)*16+s.other)*65536+s.work,0):=by simp_all [YA,if_neg]
       rw [e];exact we
def unsF (x:Inst) (i:Int):Sco×Int :=
 if i<0\/(x.orders.length:Int)<=i then (zSco,2)
 else if (nth x.orders i.toNat).off=true then (zSco,9)
 else if (nth x.orders i.toNat).penalty= -1 then (zSco,23)
 else (⟨(nth x.orders i.toNat).penalty,if (nth x.orders i.toNat).now= -1 then 0 else 1,0,0⟩,0)
theorem NR (x:Inst) (i:Int) (ho:x.orders.length<=1048576):PT 167 [.p (Zv x),.p (.int .i64 i)] [.p (Er (unsF x i).1),.p (.int .i64 (unsF x i).2)]:=by
 refine Zf [] Tryz.func167 rfl Za5 ?_;simp (disch:=omega) only [Tryz.f167,go_sem,seval];refine gF ?_ ?_<;>intro h1<;>simp (disch:=omega) only [Sh.out h1,go_sem,seval,↓reduceIte]
 ·have e:unsF x i=(zSco,2):=by simp_all [unsF]
  rw [e];exact we (by simp (disch:=omega) only [zSco,go_sem,seval])
 ·refine cD ?_ ?_<;>intro h2<;>simp (disch:=omega) only [Sh.out h2,go_sem,seval,↓reduceIte]
  ·have e:unsF x i=(zSco,2):=by simp_all [unsF]
   rw [e];exact we (by simp (disch:=omega) only [zSco,go_sem,seval])
  ·have hi:i.toNat<x.orders.length:=Za
   have n1: ¬(i<0\/(x.orders.length:Int)<=i):=Za
   refine cD ?_ ?_<;>intro h3<;>simp (disch:=omega) only [Sh.out h3,go_sem,seval,↓reduceIte]
   ·have e:unsF x i=(zSco,9):=by simp_all [unsF]
    rw [e];exact we (by simp (disch:=omega) only [zSco,go_sem,seval])
   ·have h3': ¬(nth x.orders i.toNat).off=true:=by rw [h3];simp
    refine cD ?_ ?_<;>intro h4<;>simp (disch:=omega) only [Sh.out h4,go_sem,seval,↓reduceIte]
    ·have e:unsF x i=(zSco,23):=by simp_all [unsF]
     rw [e];exact we (by simp (disch:=omega) only [zSco,go_sem,seval])
    ·refine cD ?_ ?_<;>intro h5<;>simp (disch:=omega) only [Sh.out h5,go_sem,seval,↓reduceIte]
     ·have e:unsF x i=(⟨(nth x.orders i.toNat).penalty,1,0,0⟩,0):=by simp_all [unsF]
      rw [e];exact we
     ·have h5':(nth x.orders i.toNat).now= -1:=Za
      have e:unsF x i=(⟨(nth x.orders i.toNat).penalty,0,0,0⟩,0):=by simp_all [unsF]
      rw [e];exact we
theorem Md (x:Inst) (i:Int) (ho:x.orders.length<=1048576):PT 56 [.p (Zv x),.p (.int .i64 i)] [.p (Er (unsF x i).1),.p (.int .i64 (unsF x i).2)]:=by
 refine Zf [] Tryz.func56 rfl ZiR ?_;simp (disch:=omega) only [Tryz.f56,go_sem,seval];refine gF ?_ ?_<;>intro h1<;>simp (disch:=omega) only [Sh.out h1,go_sem,seval,↓reduceIte]
 ·have e:unsF x i=(zSco,2):=by simp_all [unsF]
  rw [e];exact we (by simp (disch:=omega) only [zSco,go_sem,seval])
 ·refine cD ?_ ?_<;>intro h2<;>simp (disch:=omega) only [Sh.out h2,go_sem,seval,↓reduceIte]
  ·have e:unsF x i=(zSco,2):=by simp_all [unsF]
   rw [e];exact we (by simp (disch:=omega) only [zSco,go_sem,seval])
  ·have hi:i.toNat<x.orders.length:=Za
   have n1: ¬(i<0\/(x.orders.length:Int)<=i):=Za
   refine cD ?_ ?_<;>intro h3<;>simp (disch:=omega) only [Sh.out h3,go_sem,seval,↓reduceIte]
   ·have e:unsF x i=(zSco,9):=by simp_all [unsF]
    rw [e];exact we (by simp (disch:=omega) only [zSco,go_sem,seval])
   ·have h3': ¬(nth x.orders i.toNat).off=true:=by rw [h3];simp
    refine cD ?_ ?_<;>intro h4<;>simp (disch:=omega) only [Sh.out h4,go_sem,seval,↓reduceIte]
    ·have e:unsF x i=(zSco,23):=by simp_all [unsF]
     rw [e];exact we (by simp (disch:=omega) only [zSco,go_sem,seval])
    ·refine cD ?_ ?_<;>intro h5<;>simp (disch:=omega) only [Sh.out h5,go_sem,seval,↓reduceIte]
     ·have e:unsF x i=(⟨(nth x.orders i.toNat).penalty,1,0,0⟩,0):=by simp_all [unsF]
      rw [e];exact we
     ·have h5':(nth x.orders i.toNat).now= -1:=Za
      have e:unsF x i=(⟨(nth x.orders i.toNat).penalty,0,0,0⟩,0):=by simp_all [unsF]
      rw [e];exact we
def V8 (s:Sco):Bool:=decide (0<=s.cost)&&decide (s.cost<=1073741824)&&decide (0<=s.moved)&&decide (s.moved<=15)&&decide (0<=s.other)&&decide (s.other<=15)&&decide (0<=s.work)&&decide (s.work<=65535)
theorem cC (s:Sco):PC 57 [.p (Er s)] (.bool (V8 s)):=by
 refine Zd Tryz.func57 rfl ZiS ?_;simp (disch:=omega) only [Tryz.f57,go_sem,seval];refine gT ?_ ?_<;>intro h1<;>simp (disch:=omega) only [Sh.out h1,go_sem,seval,↓reduceIte]
 ·refine gT ?_ ?_<;>intro h2<;>simp (disch:=omega) only [Sh.out h2,go_sem,seval,↓reduceIte]
  ·refine gT ?_ ?_<;>intro h3<;>simp (disch:=omega) only [Sh.out h3,go_sem,seval,↓reduceIte]
   ·refine gT ?_ ?_<;>intro h4<;>simp (disch:=omega) only [Sh.out h4,go_sem,seval,↓reduceIte]
    ·refine gT ?_ ?_<;>intro h5<;>simp (disch:=omega) only [Sh.out h5,go_sem,seval,↓reduceIte]
     ·refine gT ?_ ?_<;>intro h6<;>simp (disch:=omega) only [Sh.out h6,go_sem,seval,↓reduceIte]
      ·refine gT ?_ ?_<;>intro h7<;>simp (disch:=omega) only [Sh.out h7,go_sem,seval,↓reduceIte]
       ·grind [V8]
       grind [V8]
      grind [V8]
     grind [V8]
    grind [V8]
   grind [V8]
  grind [V8]
 ·simp [V8,h1]
theorem GL (s:Sco) (hs:scoR 1152921504606846976 s):PT 33 [.p (Er s)] [.p (.int .i64 (YA s).1),.p (.int .i64 (YA s).2)]:=by
 obtain ⟨a1,a2,a3,a4⟩:=hs
 have bad:(s.cost<0\/s.moved<0\/s.other<0\/s.work<0)->YA s=(0,2):=fun h=>by rw [YA,if_pos h]
 refine Zf [] Tryz.func33 rfl Ziw ?_;simp (disch:=omega) only [Tryz.f33,go_sem,seval];refine gF ?_ ?_<;>intro h1<;>simp (disch:=omega) only [Sh.out h1,go_sem,seval,↓reduceIte]
 ·rw [bad Za];exact we
 ·refine gF ?_ ?_<;>intro h2<;>simp (disch:=omega) only [Sh.out h2,go_sem,seval,↓reduceIte]
  ·rw [bad Za];exact we
  ·refine gF ?_ ?_<;>intro h3<;>simp (disch:=omega) only [Sh.out h3,go_sem,seval,↓reduceIte]
   ·rw [bad Za];exact we
   ·refine cD ?_ ?_<;>intro h4<;>simp (disch:=omega) only [Sh.out h4,go_sem,seval,↓reduceIte]
    ·rw [bad Za];exact we
    ·have n1: ¬(s.cost<0\/s.moved<0\/s.other<0\/s.work<0):=Za
     refine (cC s).use (Zc ?_);refine cD ?_ ?_<;>intro h5<;>simp (disch:=omega) only [Sh.out h5,go_sem,seval,↓reduceIte]
     ·have e:YA s=(0,4):=by
       have h6: ¬V8 s=true:=by grind
       rw [YA,if_neg n1,if_pos];refine J0 fun h7=>h6 ?_;simp [V8];omega
      rw [e];exact we
     ·have h6:V8 s=true:=by grind
      simp [V8] at h6
      have e:YA s=(((s.cost*16+s.moved)*16+s.other)*65536+s.work,0):=by rw [YA,if_neg n1,if_neg Za]
      rw [e];refine Zc ?_;exact we
def bN (s:Sco):Prop:=0<=s.cost/\0<=s.moved/\0<=s.other/\0<=s.work
theorem OD {s:Sco} (hs:bN s):(YA s).2=0↔s.cost<=1073741824/\s.moved<16/\s.other<16/\s.work<65536:=by
 obtain ⟨a1,a2,a3,a4⟩:=hs;unfold YA
 grind
theorem oA {s:Sco} (hs:bN s) (h:(YA s).2=0):(YA s).1=((s.cost*16+s.moved)*16+s.other)*65536+s.work:=by
 have h:=(OD hs).1 h;obtain ⟨a1,a2,a3,a4⟩:=hs
 simp_all [YA,if_neg]
theorem Ox {x:Inst} (hx:InstOk x) (i:Int):scoR 1073741824 (unsF x i).1:=by
 unfold unsF
 split
 ·simp [scoR,zSco]
 ·split
  ·simp [scoR,zSco]
  ·split
   ·simp [scoR,zSco]
   ·have ha:=(hx.orders.2 i.toNat Za).arg;simp only [argOk,rng,ZH,Zs] at ha
    grind [scoR]
theorem AV {a:Sco} {B C:Int} (h:B<=C) (ha:scoR B a):scoR C a:=by
 grind [scoR]
def MT (x:Inst) (t:Typ) (r:Rte) (c:Bool) (sp:List Stp):PV:= .agg [.list x.net.places_c (x.net.places.map eS),.list x.net.arcs_c (x.net.arcs.map VS),.list x.types_c (x.types.map X4),.list x.orders_c (x.orders.map Yj),.list x.apart_c (x.apart.map eP),.list x.before_c (x.before.map eP),.str t.name,.int .i64 t.count,.int .i64 t.src,.int .i64 t.dst,.list t.cap_c (t.cap.map eI),.int .i64 t.skills,.int .i64 t.prof,.int .i64 t.opn,.int .i64 t.cls,.int .i64 t.drive,.int .i64 t.rest,.int .i64 t.fixed,.int .i64 t.perMile,.int .i64 t.perTick,.int .i64 r.typ,.int .i64 r.start,.list r.rests_c (r.rests.map eB),.list r.visits_c (r.visits.map Z8),.list c (sp.map Fw)]
@[go_sem] theorem ZlP (x:Inst) (t:Typ) (r:Rte) (c:Bool) (sp:List Stp):MT x t r c sp= .agg [.list x.net.places_c (x.net.places.map eS),.list x.net.arcs_c (x.net.arcs.map VS),.list x.types_c (x.types.map X4),.list x.orders_c (x.orders.map Yj),.list x.apart_c (x.apart.map eP),.list x.before_c (x.before.map eP),.str t.name,.int .i64 t.count,.int .i64 t.src,.int .i64 t.dst,.list t.cap_c (t.cap.map eI),.int .i64 t.skills,.int .i64 t.prof,.int .i64 t.opn,.int .i64 t.cls,.int .i64 t.drive,.int .i64 t.rest,.int .i64 t.fixed,.int .i64 t.perMile,.int .i64 t.perTick,.int .i64 r.typ,.int .i64 r.start,.list r.rests_c (r.rests.map eB),.list r.visits_c (r.visits.map Z8),.list c (sp.map Fw)]:=Zk rfl rfl
def ZdC (x:Inst) (t:Typ) (r:Rte):List V:= [.p (.list x.net.places_c (x.net.places.map eS)),.p (.list x.net.arcs_c (x.net.arcs.map VS)),.p (.list x.types_c (x.types.map X4)),.p (.list x.orders_c (x.orders.map Yj)),.p (.list x.apart_c (x.apart.map eP)),.p (.list x.before_c (x.before.map eP)),.p (.str t.name),.p (.int .i64 t.count),.p (.int .i64 t.src),.p (.int .i64 t.dst),.p (.list t.cap_c (t.cap.map eI)),.p (.int .i64 t.skills),.p (.int .i64 t.prof),.p (.int .i64 t.opn),.p (.int .i64 t.cls),.p (.int .i64 t.drive),.p (.int .i64 t.rest),.p (.int .i64 t.fixed),.p (.int .i64 t.perMile),.p (.int .i64 t.perTick),.p (.int .i64 r.typ),.p (.int .i64 r.start),.p (.list r.rests_c (r.rests.map eB)),.p (.list r.visits_c (r.visits.map Z8))]
def Wd (x:Inst) (t:Typ) (r:Rte) (c:Bool) (sp:List Stp):AM.Obj:= .cells [.p (.list x.net.places_c (x.net.places.map eS)),.p (.list x.net.arcs_c (x.net.arcs.map VS)),.p (.list x.types_c (x.types.map X4)),.p (.list x.orders_c (x.orders.map Yj)),.p (.list x.apart_c (x.apart.map eP)),.p (.list x.before_c (x.before.map eP)),.p (.str t.name),.p (.int .i64 t.count),.p (.int .i64 t.src),.p (.int .i64 t.dst),.p (.list t.cap_c (t.cap.map eI)),.p (.int .i64 t.skills),.p (.int .i64 t.prof),.p (.int .i64 t.opn),.p (.int .i64 t.cls),.p (.int .i64 t.drive),.p (.int .i64 t.rest),.p (.int .i64 t.fixed),.p (.int .i64 t.perMile),.p (.int .i64 t.perTick),.p (.int .i64 r.typ),.p (.int .i64 r.start),.p (.list r.rests_c (r.rests.map eB)),.p (.list r.visits_c (r.visits.map Z8)),.p (.list c (sp.map Fw))]
def ZdO : AM.Obj:= .cells [.p (.list true []),.p (.list true []),.p (.list true []),.p (.list true []),.p (.list true []),.p (.list true []),.p (.str []),.p (.int .i64 0),.p (.int .i64 0),.p (.int .i64 0),.p (.list true []),.p (.int .i64 0),.p (.int .i64 0),.p (.int .i64 0),.p (.int .i64 0),.p (.int .i64 0),.p (.int .i64 0),.p (.int .i64 0),.p (.int .i64 0),.p (.int .i64 0),.p (.int .i64 0),.p (.int .i64 0),.p (.list true []),.p (.list true []),.p (.list true [])]
def JN (L:Lab):PV:= .agg [.int .i64 L.ready,.int .i64 L.since,.bool L.she.rest,.int .i64 L.she.dep,.list L.she.times_c (L.she.times.map eTim),.int .i64 L.she.fin,.int .i64 L.she.miles]
@[go_sem] theorem ZlF (L:Lab):JN L= .agg [.int .i64 L.ready,.int .i64 L.since,.bool L.she.rest,.int .i64 L.she.dep,.list L.she.times_c (L.she.times.map eTim),.int .i64 L.she.fin,.int .i64 L.she.miles]:=Zk rfl rfl
@[go_sem] theorem Zei (l:List Lab):BZ 7 (l.map JN)=true:=B0 (f:=JN) (S:=7) (fun _=>rfl) l
def WZ (L:Lab):AM.Obj:= .cells [.p (.int .i64 L.ready),.p (.int .i64 L.since),.p (.bool L.she.rest),.p (.int .i64 L.she.dep),.p (.list L.she.times_c (L.she.times.map eTim)),.p (.int .i64 L.she.fin),.p (.int .i64 L.she.miles)]
theorem gS (l:List Tim) (c:Bool) (hl:l.length<=1048576):ACalls Tryz.prog 289 [.p (.list c (l.map eTim))] [] fun x H'=>x= .sl 0 0 l.length l.length/\H'= [.elems 4 (l.map eTim)]:=by
 suffices hh:ACalls Tryz.prog 289 [.p (.list c (l.map eTim))] [] fun x H'=> ∃m:List Tim,m=l/\x= .sl 0 0 m.length m.length/\H'= [.elems 4 (m.map eTim)] by
  grind
 refine Zf [1] Tryz.func289 rfl ZcG ?_;simp (disch:=omega) only [Tryz.f289,go_sem,seval];refine YI (YI (qF 1 rfl rfl ?_));refine ⟨_,sY (e:=299) rfl Tryz.underlying116 rfl (fun _=>rfl),?_⟩;rintro _ ⟨b,rfl,hb⟩;refine Zc ?_;refine Zg [] _ _ _ _ ?_
 cases b with
 | true =>
  have hn:l= []:=by simp_all
  subst hn;refine Zc ?_;exact ⟨_,_,Weak.ofNil 0 4 rfl Zb (wk),[],rfl,rfl,rfl⟩
 | false =>
  refine Zc ?_;refine Zg [] _ _ _ _ (Zc ?_);exact ⟨.sl 0 0 l.length l.length,[.elems 4 (l.map eTim)],wk,l,rfl,rfl,rfl⟩
theorem Hl (x:Inst) (t:Typ) (r:Rte) (c:Bool) (sp:List Stp):PC 257 [.p (MT x t r c sp)] (JN (labF t r.start)):=by
 refine Zf [] Tryz.func257 rfl Zca ?_;simp (disch:=omega) only [Tryz.f257,go_sem,seval];exact we (by simp (disch:=omega) only [labF,zShe,Zn,go_sem,seval])
theorem mC (x:Inst) (t:Typ) (r:Rte) (c:Bool) (sp:List Stp) (k:Nat) (hk:k<=sp.length) (hl:sp.length<=1048576):PC 290 [.p (MT x t r c sp),.p (.int .i64 (k:Nat))] (.int .i64 (V7 t sp k)):=by
 refine Zd Tryz.func290 rfl ZcH ?_;simp (disch:=omega) only [Tryz.f290,go_sem,seval];refine cD ?_ ?_<;>intro h<;>simp (disch:=omega) only [Sh.out h,go_sem,seval,↓reduceIte]
 ·simp_all [V7]
 simp_all [V7]
theorem Zdb (x:Inst) (r:Rte) (hx:InstOk x) (hty:0<=r.typ/\r.typ<(x.types.length:Int)) (h0:Xg x r.visits=0) (hs:0<=r.start/\r.start<=4096) :
  PT 256 [.p (Zv x),.p (Wy r)] [.p (MT x (ZE x r) r false (ZO x r.visits)),.p (.bool true)]:=by
 have hd:=QG hx;have hsq:=VO h0;have hol:=hd.ord;have htl:=hd.typ;have hvl:=hsq.len hol
 have e1: ¬r.typ<0:=Za
 have e2: ¬(x.types.length:Int)<=r.typ:=Za
 have e3: ¬r.start<0:=Za
 have e4: ¬ 4096<r.start:=Za
 have e5: ¬ 20<(r.visits.length:Int):=Za
 refine Zf [12] Tryz.func256 rfl kA ?_;simp (disch:=omega) only [Tryz.f256,e1,e2,e3,e4,e5,go_sem,seval];refine X2 [9] 10 mixed Ze Ze Ze Zb (Zc ?_);refine Xr 9 _ _ Ze (by refine Zc ?_;exact ⟨rfl,rfl⟩) (Wv ?_);refine Zc ?_
 refine Z0 [12] [2,4,6,49,50] (fun q:Nat×List Stp=> [(51,.p (.int .i64 q.1))])
  (fun q=> [Zi x,Xu r,ZdO,.cells (ZdC x (ZE x r) r++ [.sl 4 0 q.2.length q.2.length]),.elems 4 (q.2.map Fw)])
  (fun q=>q.1<=r.visits.length/\q.2=(ZO x r.visits).take q.1) (fun q=>r.visits.length-q.1) (0,[]) Zb ((Weak.nilC (o:=3) (j:=24) 4 rfl rfl Zb).trans (Weak.mk ?_)) ?_
 ·simp (disch:=omega) only [Zi,Xu,ZdO,ZdC,ZE,Zn,ZF,Z1,ZW,ZL,Zz,go_sem,seval]
 ·rintro ⟨k,o⟩ ⟨hk,ho⟩;simp only at hk ho
  have hol2:o.length=k:=by grind [Yf]
  simp (disch:=omega) only [Zi,Xu,ZdO,ZdC,go_sem,seval];refine cD ?_ ?_<;>intro h1<;>simp (disch:=omega) only [Sh.out h1,go_sem,seval,↓reduceIte]
  ·have hk2:k<r.visits.length:=Za
   have hvis:=hsq.vis (Zt hk2);simp only [Aa,ZH,Zs] at hvis
   have hsn:o++ [Xj x (nth r.visits k)]=(ZO x r.visits).take (k+1):=by
    rw [ho,X0 (by grind [Yf]),<- Zh,GE hk2]
   have hnp: ¬(Xj x (nth r.visits k)).place<0:=Za
   refine Yi (SJ x (nth r.visits k) Za hvis.1 hvis.2) ?_;simp (disch:=omega) only [hnp,go_sem,seval];exact ⟨(k+1,o++ [Xj x (nth r.visits k)]),⟨Za,hsn⟩,Za,Weak.mk (by simp (disch:=omega) only [ZG,ZD,ZF,Xs,Zq,Zn,go_sem,seval])⟩
  ·have hkl:k=r.visits.length:=Za
   subst hkl
   have hso:o=ZO x r.visits:=by grind [Yf]
   subst hso;refine Zp (Weak.fz (o:=4) (by rfl)) (Zg [] _ _ _ _ (US ?_));exact we
def Og (rd sn:Int) (m:She):AM.Obj:= .cells [.p (.int .i64 rd),.p (.int .i64 sn),.p (.bool m.rest),.p (.int .i64 m.dep),.sl 4 0 m.times.length m.times.length,.p (.int .i64 m.fin),.p (.int .i64 m.miles)]
theorem FB {P:Program} {H:List AM.Obj} {f ars} {a b d:PV} {B:V->Prop} {t} (h:ACalls P f ars [] fun x H'=>x= .tup [.p a,.p b,.p d]/\H'= []) (k:B (.tup [.p a,.p b,.p d])) (ha:Xn 0 ars=true:=by rfl) :
  T6 (fun y=>ACalls P f ars H (Zu (Zu (fun x H'=>x=y/\H'=H) ⟨⟩) ⟨⟩)) (Zu B t) :=
 ⟨.tup [.p a,.p b,.p d],(h.behind ha H).mono fun x H' hq=>by
  obtain ⟨y,H1,⟨rfl,rfl⟩,rfl,rfl⟩:=hq
  simp [shV,shVs,Zu],k⟩
theorem ZcZ (x:Inst) (t:Typ) (r:Rte) (c:Bool) (sp:List Stp) (hok:TrpOk x t sp) (k:Nat) (hk:k<=sp.length) (hs1:0<sp.length) (L:Lab) (hL:LabR k L) (hlen:L.she.times.length=k) (hclip:0<k->L.she.times_c=false) (b:Bool) :
  PT 278 [.p (MT x t r c sp),.p (JN L),.p (.int .i64 (k:Nat)),.p (.bool b)] [.p (JN (nxtF x t sp k L b).1),.p (.int .i64 (nxtF x t sp k L b).2)]:=by
 have hd:=KB hok hL b;have hsn:=GC hL b;have hg:=Ld hok hL b;have hmi:=hL.mil;have hrd:=hL.rdy;have hsnL:=hL.snc;have hsl:=hok.len;have hrst:=hok.rst;unfold nxtF;have hmm:= @KK k (ZK t L b) b L.she;have hmf:= @HP k (ZK t L b) b L.she;have hml:= @AK k (ZK t L b) b L.she;refine Zf [2,7,14,31] Tryz.func278 rfl Zcv ?_;simp (disch:=omega) only [Tryz.f278,go_sem,seval];refine Xe (Zc ?_);refine ZJ [2,3,4,5,8] (fun _:Unit=> [(10,.p (.int .i64 (ZK t L b))),(11,.p (.int .i64 (WU L b)))]) (fun _=> [Wd x t r c sp,WZ L,WZ WW]) (fun _=>True) ?_ ?_
 ·refine Zc ?_;refine ZR ?_ ?_<;>intro h
  ·subst h;exact ⟨(),Weak.mk (by simp (disch:=omega) only [Wd,WZ,WW,zShe,ZK,WU,Zn,go_sem,seval,↓reduceIte])⟩
  ·subst h;exact ⟨(),Weak.mk (by simp (disch:=omega) only [Wd,WZ,WW,zShe,ZK,WU,Zn,go_sem,seval,↓reduceIte])⟩
 ·intro _ _;refine Zg [7,14,31] _ _ _ _ ?_;simp (disch:=omega) only [Wd,WZ,WW,zShe,Zn,go_sem,seval];refine (gS L.she.times L.she.times_c Za).useF (Zc ?_)
  generalize hM:X1 k (ZK t L b) b L.she=M at *
  refine ZJ [2,4,8,10,11,12] (fun _:Unit=> []) (fun _=> [Wd x t r c sp,WZ L,WZ WW,Og 0 0 M,.elems 4 (M.times.map eTim)]) (fun _=>True) ?_ ?_
  ·refine Zc ?_;refine ZR ?_ ?_<;>intro h
   ·have hk0:k=0:=Za
    subst hk0
    have e:M= { L.she with rest:=b,dep:=ZK t L b } :=by rw [<- hM,X1,if_pos rfl]
    rw [e];exact ⟨(),Weak.mk (by simp (disch:=omega) only [Wd,WZ,WW,zShe,Og,Zn,go_sem,seval])⟩
   ·have e1:((k:Int)-1).toNat=k-1:=Za
    have hk1:k-1<L.she.times.length:=Za
    have FL:(L.she.times.map eTim).set (k-1) (PV.agg [.int .i64 (nth L.she.times (k-1)).arr,.int .i64 (nth L.she.times (k-1)).beg,.int .i64 (nth L.she.times (k-1)).dep,.bool b])=(L.she.times.set (k-1) { nth L.she.times (k-1) with rest:=b }).map eTim:=by
     rw [V4];rfl
    have hn1:nth (L.she.times.set (k-1) { nth L.she.times (k-1) with rest:=b }) (k-1)= { nth L.she.times (k-1) with rest:=b } :=by
     grind [Zh]
    have hl1:(L.she.times.set (k-1) { nth L.she.times (k-1) with rest:=b }).length=L.she.times.length:=Zb
    have hMt:M.times=(L.she.times.set (k-1) { nth L.she.times (k-1) with rest:=b }).set (k-1) { nth (L.she.times.set (k-1) { nth L.she.times (k-1) with rest:=b }) (k-1) with dep:=ZK t L b } :=by
     rw [hn1,List.set_set,<- hM,X1,if_neg Za];rfl
    have hM2:M.rest=L.she.rest/\M.dep=L.she.dep:=by rw [<- hM,X1,if_neg Za];simp
    simp (disch:=first | omega | (simp only [ZD,ZF,ZG,ZY,Xh,XI]<;>omega)) only [e1,go_sem,seval,↓reduceIte];rw [FL]
    generalize L.she.times.set (k-1) { nth L.she.times (k-1) with rest:=b } =l1 at *
    simp (disch:=first | omega | (simp only [ZD,ZF,ZG,ZY,Xh,XI]<;>omega)) only [e1,hl1,eq_self,VI,go_sem,seval];refine ⟨(),Weak.mk ?_⟩;simp (disch:=omega) only [Wd,WZ,WW,zShe,Og,Zn,hM2.1,hM2.2,hmm,hmf,hml,go_sem,seval];rw [hMt,V4]
    rfl
  ·intro _ _;refine Zg [14,31] _ _ _ _ ?_;simp (disch:=omega) only [Wd,WZ,WW,zShe,Og,Zn,go_sem,seval];refine ZJ [2,4,8,10,11,12,13] (fun _:Unit=> [(14,.p (.int .i64 (OM t sp k)))]) (fun _=> [Wd x t r c sp,WZ L,WZ WW,Og 0 0 M,.elems 4 (M.times.map eTim)]) (fun _=>True) ?_ ?_
   ·refine Zc ?_;refine ZR ?_ ?_<;>intro h
    ·have e:OM t sp k=(nth sp k).place:=by rw [OM,if_neg Za]
     exact ⟨(),Weak.mk (by simp (disch:=omega) only [Wd,WZ,WW,zShe,Og,Zn,e,go_sem,seval])⟩
    ·have e:OM t sp k=t.dst:=by rw [OM,if_pos Za]
     exact ⟨(),Weak.mk (by simp (disch:=omega) only [Wd,WZ,WW,zShe,Og,Zn,e,go_sem,seval])⟩
   ·intro _ _;refine Zg [31] _ _ _ _ ?_;simp (disch:=omega) only [Wd,WZ,WW,zShe,Og,Zn,go_sem,seval];refine Xe (Zc ?_);refine Zo (mC x t r c sp k hk Za) (Zc ?_);refine FB (xA x.net t.prof (V7 t sp k) (OM t sp k) (ZK t L b) hok.net Za) (Zc ?_);have hG:WY x.net t.prof (V7 t sp k) (OM t sp k) (ZK t L b)=Y2 x t sp k (ZK t L b):=rfl;rw [hG];clear hG
    generalize Y2 x t sp k (ZK t L b)=g at *
    generalize ZK t L b=d at *
    generalize WU L b=s at *
    refine cD ?_ ?_<;>intro h1<;>simp (disch:=omega) only [Sh.out h1,go_sem,seval,↓reduceIte]
    ·have e:WB t sp k g d s M=(WW,12):=by rw [WB,if_pos h1]
     rw [e];exact we (by simp (disch:=omega) only [WW,zShe,Zn,go_sem,seval])
    ·refine cD ?_ ?_<;>intro h2<;>simp (disch:=omega) only [Sh.out h2,go_sem,seval,↓reduceIte]
     ·refine cD ?_ ?_<;>intro h3<;>simp (disch:=omega) only [Sh.out h3,go_sem,seval,↓reduceIte]
      ·have e:WB t sp k g d s M=(WW,15):=by rw [WB,if_neg h1,if_pos Za,if_pos h3]
       rw [e];exact we (by simp (disch:=omega) only [WW,zShe,Zn,go_sem,seval])
      ·refine Zp (Weak.fz (o:=4) (by rfl)) (Zg [] _ _ _ _ (US ?_));refine cD ?_ ?_<;>intro h4<;>simp (disch:=omega) only [Sh.out h4,go_sem,seval,↓reduceIte]
       ·have e:WB t sp k g d s M=(WW,16):=by rw [WB,if_neg h1,if_pos Za,if_neg h3,if_pos h4]
        rw [e];exact we (by simp (disch:=omega) only [WW,zShe,Zn,go_sem,seval])
       ·have e:WB t sp k g d s M=(⟨g.1,s+g.1-d,{ M with fin:=g.1,miles:=M.miles+g.2.1 }⟩,0):=by rw [WB,if_neg h1,if_pos Za,if_neg h3,if_neg h4]
        have hMc:M.times_c=false:=by
         rw [<- hM,X1,if_neg Za]
         grind
        rw [e];exact we (by simp (disch:=omega) only [hMc,go_sem,seval])
     ·have h2': ¬k=sp.length:=Za
      have hkl:k<sp.length:=Za
      have hstp:=hok.stp _ (ZZ hkl);refine Yi (RI (nth sp k) g.1) ?_;unfold Fm
      by_cases h3:(nth sp k).cls<max g.1 (nth sp k).opn
      ·have e:WB t sp k g d s M=(WW,14):=by simp_all [WB]
       rw [e,if_pos h3];refine Zc ?_;exact we (by simp (disch:=omega) only [WW,zShe,Zn,go_sem,seval])
      ·rw [if_neg h3];refine Zc ?_;refine Zp (Weak.fz (o:=4) (by rfl)) (Zg [] _ _ _ _ (US ?_));refine cD ?_ ?_<;>intro h4<;>simp (disch:=omega) only [Sh.out h4,go_sem,seval,↓reduceIte]
       ·have e:WB t sp k g d s M=(WW,16):=by simp_all [WB]
        rw [e];exact we (by simp (disch:=omega) only [WW,zShe,Zn,go_sem,seval])
       ·have e:WB t sp k g d s M=(⟨max g.1 (nth sp k).opn+(nth sp k).serv,s+g.1-d,{ M with times_c:=false,times:=M.times++ [⟨g.1,max g.1 (nth sp k).opn,0,false⟩],miles:=M.miles+g.2.1 }⟩,0):=by simp_all [WB,if_neg]
        rw [e];exact we
theorem bA {x t sp k L b} (hs:0<sp.length) (hc:0<k->L.she.times_c=false) (he:(nxtF x t sp k L b).2=0):(nxtF x t sp k L b).1.she.times_c=false:=by
 have hm:0<k->(X1 k (ZK t L b) b L.she).times_c=false:=fun h=>by rw [X1,if_neg Za];exact hc h
 unfold nxtF at he ⊢
 generalize Y2 x t sp k (ZK t L b)=g at *
 generalize ZK t L b=d at *
 generalize WU L b=s at *
 generalize X1 k d b L.she=m at *
 unfold WB at he ⊢
 grind
structure LabO (n k:Nat) (L:Lab):Prop where
 rng:LabR k L
 len:k<=n->L.she.times.length=k
 clip:0<k->L.she.times_c=false
theorem HH {x t sp k L b} (hok:TrpOk x t sp) (hs:0<sp.length) (hk:k<=sp.length) (h:LabO sp.length k L) (he:(nxtF x t sp k L b).2=0):LabO sp.length (k+1) (nxtF x t sp k L b).1 :=
 ⟨LB hok hk h.rng he,fun hk2=>F0 (h.len hk) he Za,fun _=>bA hs h.clip he⟩
theorem HI {x t sp} (hok:TrpOk x t sp) {st:Int} (hst:0<=st/\st<=4096):LabO sp.length 0 (labF t st) :=
 ⟨⟨by have:=hok.opn;grind [labF],by simp [labF],by simp [labF,zShe]⟩,fun _=>rfl,fun h=>Za⟩
theorem SE (x:Inst) (t:Typ) (r:Rte) (c:Bool) (sp:List Stp) (hok:TrpOk x t sp) (k:Nat) (hk:k<=sp.length) (hs1:0<sp.length) (L:Lab) (hL:LabO sp.length k L) (b:Bool) :
  PT 278 [.p (MT x t r c sp),.p (JN L),.p (.int .i64 (k:Nat)),.p (.bool b)] [.p (JN (nxtF x t sp k L b).1),.p (.int .i64 (nxtF x t sp k L b).2)] :=
 ZcZ x t r c sp hok k hk hs1 L hL.rng (hL.len hk) hL.clip b
theorem ZjY (x:Inst) (t:Typ) (r:Rte) (c:Bool) (sp:List Stp) (hok:TrpOk x t sp) (hs1:0<sp.length) (hst:0<=r.start/\r.start<=4096) (bs:List Bool) (d:Bool) (hb:bs.length=sp.length+1) :
  PT 259 [.p (MT x t r c sp),.p (.list d (bs.map eB))] [.p (Fu (Xc x t sp 0 (labF t r.start) bs).1.she),.p (.int .i64 (Xc x t sp 0 (labF t r.start) bs).2)]:=by
 have hsl:=hok.len;refine Zf [] Tryz.func259 rfl Zcc ?_;simp (disch:=omega) only [Tryz.f259,go_sem,seval];refine (Hl x t r c sp).use (Zc ?_)
 refine Zl [2,4,6,13,14] (fun q:Nat×Lab=> [(15,.p (.int .i64 q.1))]) (fun q=> [Wd x t r c sp,.cells [.p (.bool false),.p (.int .i64 0),.p (.list true []),.p (.int .i64 0),.p (.int .i64 0)],WZ q.2])
  (fun q=>q.1<=bs.length/\Xc x t sp 0 (labF t r.start) bs=Xc x t sp q.1 q.2 (bs.drop q.1)/\LabO sp.length q.1 q.2) (fun q=>bs.length-q.1) (0,labF t r.start) ⟨Zb,Zb,HI hok hst⟩ (Weak.mk ?_) ?_
 ·simp (disch:=omega) only [Wd,WZ,go_sem,seval]
 ·rintro ⟨k,L⟩ ⟨hk,hrun,hL⟩;simp only at hk hrun hL;simp (disch:=omega) only [Wd,WZ,go_sem,seval];refine cD ?_ ?_<;>intro h1<;>simp (disch:=omega) only [Sh.out h1,go_sem,seval,↓reduceIte]
  ·have hk2:k<bs.length:=Za
   have hdrop:bs.drop k=nth bs k::bs.drop (k+1):=by rw [VF hk2,Zh hk2]
   rw [hdrop,Xc] at hrun;have cn:=SE x t r c sp hok k Za hs1 L hL (nth bs k);have hL2:=HH (x:=x) (t:=t) (b:=nth bs k) hok hs1 Za hL
   generalize nxtF x t sp k L (nth bs k)=N at *
   refine Yi cn (Zc ?_);refine ZR ?_ ?_<;>intro h2
   ·rw [hrun,if_neg h2];exact we (by simp (disch:=omega) only [WW,zShe,Zn,go_sem,seval])
   ·rw [if_pos Za] at hrun;exact ⟨(k+1,N.1),⟨Za,hrun,hL2 Za⟩,Za,wk⟩
  ·have hkl:k=bs.length:=Za
   subst hkl;rw [UH,Xc] at hrun;rw [hrun];exact we
theorem qI (l m:Lab):PC 281 [.p (JN l),.p (JN m)] (.bool (Xd l m)):=by
 refine Zd Tryz.func281 rfl Zcy ?_;simp (disch:=omega) only [Tryz.f281,go_sem,seval];refine gT ?_ ?_<;>intro h<;>simp (disch:=omega) only [Sh.out h,go_sem,seval,↓reduceIte]
 ·simp [Xd,h]
 ·simp [Xd,h]
def gH (x:Inst) (t:Typ) (r:Rte) (c:Bool) (sp:List Stp) (o:List Lab) (f z:Lab):List AM.Obj:= [Wd x t r c sp,.dead,.elems 7 (o.map JN),WZ f,WZ z]
theorem rZ (x:Inst) (t:Typ) (r:Rte) (c:Bool) (sp:List Stp) (o:List Lab) (f z m:Lab):ACalls Tryz.prog 280 [.p (JN m),.ptr 4 0] (gH x t r c sp o f z) fun y H'=>y= .p (.bool (Xd m z))/\H'=gH x t r c sp o f z:=by
 refine Zf [] Tryz.func280 rfl Zcx ?_;simp (disch:=omega) only [Tryz.f280,gH,Wd,WZ,go_sem,seval];refine (qI m z).use (Zc ?_);exact we
theorem PA (x:Inst) (t:Typ) (r:Rte) (c:Bool) (sp:List Stp) (o:List Lab) (f z:Lab) (hl:o.length<=2097152) :
  ACalls Tryz.prog 291 [.sl 2 0 o.length o.length,.fn (.func 280) [] [.ptr 4 0]] (gH x t r c sp o f z) fun y H'=>y= .p (.int .i64 (wM (fun m=>Xd m z) o))/\H'=gH x t r c sp o f z:=by
 refine Zf [] Tryz.func291 rfl ZcI ?_;simp (disch:=omega) only [Tryz.f291,gH,Wd,WZ,go_sem,seval];refine Zl [0,1,7] (fun k:Nat=> [(8,.p (.int .i64 k))]) (fun _=>gH x t r c sp o f z) (fun k=>k<=o.length/\ ∀j,j<k->Xd (nth o j) z=false) (fun k=>o.length-k) 0 Zb (Weak.mk ?_) ?_
 ·simp (disch:=omega) only [gH,Wd,WZ,go_sem,seval,↓reduceIte]
 ·rintro k ⟨hk,hno⟩;simp (disch:=omega) only [gH,Wd,WZ,go_sem,seval];refine cD ?_ ?_<;>intro h<;>simp (disch:=omega) only [Sh.out h,go_sem,seval,↓reduceIte]
  ·have hk2:k<o.length:=Za
   have hg:=rZ x t r c sp o f z (nth o k);simp (disch:=first | omega | (simp only [ZD,ZF,ZG,ZY,Xh,XI]<;>omega)) only [Vz hk2,hk2,go_sem,seval,↓reduceIte];simp (disch:=omega) only [gH,Wd,WZ,go_sem,seval] at hg;refine hg.useH (Zc ?_);refine cD ?_ ?_<;>intro h2<;>simp (disch:=omega) only [Sh.out h2,go_sem,seval,↓reduceIte]
   ·rw [jE (f:=fun m=>Xd m z) hk2 h2 hno];exact we
   ·exact ⟨k+1,⟨Za,Zr.2 ⟨hno,Za⟩⟩,Za,wk⟩
  ·have hkl:k=o.length:=Za
   subst hkl;rw [jG hno];exact we
theorem G2 (x:Inst) (t:Typ) (r:Rte) (c:Bool) (sp:List Stp) (o:List Lab) (f z:Lab) (hl:o.length<=2097152) :
  ACalls Tryz.prog 279 [.sl 2 0 o.length o.length,.fn (.func 280) [] [.ptr 4 0]] (gH x t r c sp o f z) fun y H'=>y= .p (.bool (o.any fun m=>Xd m z))/\H'=gH x t r c sp o f z:=by
 refine Zf [] Tryz.func279 rfl Zcw ?_;simp (disch:=omega) only [Tryz.f279,go_sem,seval];refine (PA x t r c sp o f z hl).useH (Zc ?_);rw [jF];exact we (by simp (disch:=omega) only [gH,Wd,WZ,go_sem,seval])
def TW (x:Inst) (t:Typ) (sp:List Stp) (r:List Bool) (k:Nat) (f:Lab) (bs:List Bool) (l:List Lab):List Lab:=bs.filterMap (XA x t sp k f)++Vo (XA x t sp) (UP r) k l
theorem Zaj (x:Inst) (t:Typ) (r:Rte) (c:Bool) (sp:List Stp) (hok:TrpOk x t sp) (hs1:0<sp.length) (k:Nat) (hk:k<=sp.length) (hrl:r.rests.length<=1048576) (l:List Lab) (d:Bool) (hl:l.length<=1048576) (hL: ∀L∈l,LabO sp.length k L) :
  PC 258 [.p (MT x t r c sp),.p (.list d (l.map JN)),.p (.int .i64 (k:Nat))] (.list false ((X9 Xd [] (Vo (XA x t sp) (UP r.rests) k l)).map JN)):=by
 have hsl:=hok.len;refine Zf [2,16] Tryz.func258 rfl Zcb ?_;simp (disch:=omega) only [Tryz.f258,go_sem,seval];refine Zp (Weak.fz (o:=1) (by rfl)) (US ?_);refine ZJ [1,2,3] (fun cb:Bool=> [(7,.p (.list cb ((UP r.rests k).map eB)))]) (fun _=> [Wd x t r c sp,.dead]) (fun _=>True) ?_ ?_
 ·refine Zc ?_;refine ZR ?_ ?_<;>intro h
  ·have hk2:k<r.rests.length:=Za
   have e:UP r.rests k=(r.rests.take (k+1)).drop k:=by
    grind [UP,X0]
   exact ⟨r.rests_c&&decide ((k:Int)+1=(r.rests.length:Int)),Weak.mk (by simp (disch:=omega) only [Wd,e,go_sem,seval])⟩
  ·have e:UP r.rests k= [false,true]:=by grind [UP]
   exact ⟨false,Weak.mk (by simp (disch:=omega) only [Wd,e,Zq,Zn,go_sem,seval])⟩
 ·intro cb _
  have hch:(UP r.rests k).length<=2:=by grind [UP]
  refine Zg [16] _ _ _ _ ?_;simp (disch:=omega) only [Wd,go_sem,seval]
  refine Z0 [16] [2,3,7,29,30] (fun q:Nat×List Lab=> [(8,.sl 2 0 q.2.length q.2.length),(31,.p (.int .i64 q.1))]) (fun q=> [Wd x t r c sp,.dead,.elems 7 (q.2.map JN)])
   (fun q=>q.1<=l.length/\X9 Xd [] (Vo (XA x t sp) (UP r.rests) k l)=X9 Xd q.2 (Vo (XA x t sp) (UP r.rests) k (l.drop q.1))/\q.2.length<=2*q.1) (fun q=>l.length-q.1) (0,[]) Zb (Weak.ofNil 8 7 rfl Zb (Weak.mk ?_)) ?_
  ·simp (disch:=omega) only [Wd,Zn,ZF,go_sem,seval]
  ·rintro ⟨i,o⟩ ⟨hi,hpr,hol⟩;simp only at hi hpr hol;simp (disch:=omega) only [Wd,go_sem,seval];refine cD ?_ ?_<;>intro h1<;>simp (disch:=omega) only [Sh.out h1,go_sem,seval,↓reduceIte]
   ·have hi2:i<l.length:=Za
    have hLi:=hL _ (ZZ hi2)
    have hdrop:l.drop i=nth l i::l.drop (i+1):=by rw [VF hi2,Zh hi2]
    rw [hdrop] at hpr;have hpr:X9 Xd [] (Vo (XA x t sp) (UP r.rests) k l)=X9 Xd o (TW x t sp r.rests k (nth l i) ((UP r.rests k).drop 0) (l.drop (i+1))):=hpr
    refine Zl [2,3,7,10,29,30,31,35,36] (fun q:Nat×List Lab=> [(8,.sl 2 0 q.2.length q.2.length),(37,.p (.int .i64 q.1))]) (fun q=> [Wd x t r c sp,.dead,.elems 7 (q.2.map JN),WZ (nth l i)])
     (fun q=>q.1<=(UP r.rests k).length/\X9 Xd [] (Vo (XA x t sp) (UP r.rests) k l)=X9 Xd q.2 (TW x t sp r.rests k (nth l i) ((UP r.rests k).drop q.1) (l.drop (i+1)))/\q.2.length<=2*i+q.1) (fun q=>(UP r.rests k).length-q.1) (0,o) ⟨Zb,hpr,hol⟩ (Weak.mk ?_) ?_
    ·simp (disch:=omega) only [Wd,WZ,go_sem,seval]
    ·clear hpr hol;rintro ⟨j,o⟩ ⟨hj,hpr,hol⟩;simp only at hj hpr hol;simp (disch:=omega) only [Wd,WZ,go_sem,seval];refine ZR ?_ ?_<;>intro h2
     ·have hj2:j<(UP r.rests k).length:=Za
      have hd2:(UP r.rests k).drop j=nth (UP r.rests k) j::(UP r.rests k).drop (j+1):=by rw [VF hj2,Zh hj2]
      have cn:=SE x t r c sp hok k hk hs1 (nth l i) hLi (nth (UP r.rests k) j);have ho2:XA x t sp k (nth l i) (nth (UP r.rests k) j)=if (nxtF x t sp k (nth l i) (nth (UP r.rests k) j)).2=0 then some (nxtF x t sp k (nth l i) (nth (UP r.rests k) j)).1 else none:=rfl;rw [hd2,TW,List.filterMap_cons,ho2] at hpr
      generalize nxtF x t sp k (nth l i) (nth (UP r.rests k) j)=N at *
      refine Yi cn (Zc ?_);refine Q1 ?_ ?_<;>intro h3
      ·have hcl:=G2 x t r c sp o (nth l i) N.1 Za;simp (disch:=omega) only [gH,Wd,WZ,go_sem,seval] at hcl;refine hcl.useH (Zc ?_);rw [if_pos h3] at hpr;have hpr:X9 Xd [] (Vo (XA x t sp) (UP r.rests) k l)=if (o.any fun m=>Xd m N.1)=true then X9 Xd o (TW x t sp r.rests k (nth l i) ((UP r.rests k).drop (j+1)) (l.drop (i+1))) else X9 Xd (o++ [N.1]) (TW x t sp r.rests k (nth l i) ((UP r.rests k).drop (j+1)) (l.drop (i+1))):=hpr;refine ZR ?_ ?_<;>intro h4
       ·rw [if_neg (by grind)] at hpr;exact ⟨(j+1,o++ [N.1]),⟨Za,hpr,by simp;omega⟩,Za,Weak.mk (by simp (disch:=omega) only [ZG,ZD,ZF,Xs,Zq,Zn,go_sem,seval])⟩
       ·rw [if_pos (by grind)] at hpr;exact ⟨(j+1,o),⟨Za,hpr,by grind⟩,Za,wk⟩
      ·rw [if_neg h3] at hpr;exact ⟨(j+1,o),⟨Za,hpr,by grind⟩,Za,wk⟩
     ·have hjl:j=(UP r.rests k).length:=Za
      subst hjl;rw [UH,TW,List.filterMap_nil,Zz] at hpr;exact ⟨(i+1,o),⟨Za,hpr,by grind⟩,Za,wk⟩
   ·have hil:i=l.length:=Za
    subst hil;have e:Vo (XA x t sp) (UP r.rests) k []= []:=rfl;rw [UH,e,X9] at hpr;rw [hpr];refine Zp (Weak.fz (o:=2) (by rfl)) (Zg [] _ _ _ _ (US ?_));exact we
def rB : PV:= .agg [.list true [],.list true [],.list true [],.list true [],.list true [],.list true [],.str [],.int .i64 0,.int .i64 0,.int .i64 0,.list true [],.int .i64 0,.int .i64 0,.int .i64 0,.int .i64 0,.int .i64 0,.int .i64 0,.int .i64 0,.int .i64 0,.int .i64 0,.int .i64 0,.int .i64 0,.list true [],.list true [],.list true []]
theorem tL (x:Inst) (r:Rte) (hty:0<=r.typ/\r.typ<(x.types.length:Int)) (htl:x.types.length<=1048576) (hvl:r.visits.length<=20) (hs: ¬(0<=r.start/\r.start<=4096)) :
  PT 256 [.p (Zv x),.p (Wy r)] [.p rB,.p (.bool false)]:=by
 have e1: ¬r.typ<0:=Za
 have e2: ¬(x.types.length:Int)<=r.typ:=Za
 refine Zf [] Tryz.func256 rfl kA ?_;simp (disch:=omega) only [Tryz.f256,e1,e2,go_sem,seval];refine gF ?_ ?_<;>intro h1<;>simp (disch:=omega) only [Sh.out h1,go_sem,seval,↓reduceIte]
 ·exact we (by simp (disch:=omega) only [rB,go_sem,seval])
 ·refine gF ?_ ?_<;>intro h2<;>simp (disch:=omega) only [Sh.out h2,go_sem,seval,↓reduceIte]
  ·exact we (by simp (disch:=omega) only [rB,go_sem,seval])
  ·omega
theorem N0 {x t sp} : ∀(bs:List Bool) (k:Nat) (L:Lab),¬(Xc x t sp k L bs).2=0->(Xc x t sp k L bs).1=WW
 | [],k,L,h=>by simp [Xc] at h
 | b::bs,k,L,h=>by
  rw [Xc] at h ⊢
  split
  ·rename_i c;rw [if_pos c] at h;exact N0 bs (k+1) _ h
  ·rfl
theorem aB (n:Nat):List.replicate n false∈YV (List.replicate n false):=by
 rw [fromB_next];simp
theorem iY {l:List Lab} (h:W4 Wh none l=none):l= []:=by
 cases l with
 | nil=>rfl
 | cons a l =>
  obtain ⟨z,hz,_⟩:=VA (fin:=Wh) l a;have:W4 Wh none (a::l)=W4 Wh (some a) l:=rfl
  grind
theorem TL {x t sp} {st:Int} {r:List Bool} (h:W4 Wh none ((XD r (sp.length+1)).filterMap (Wc (XA x t sp) 0 (labF t st)))=none): ¬(Xc x t sp 0 (labF t st) (YQ r (sp.length+1))).2=0:=fun h0=>by
 have h1:=iY h;have h2:YQ r (sp.length+1)∈XD r (sp.length+1):=XC.2 ⟨_,aB _,rfl⟩
 simp_all [Yw]
theorem Pb {x t sp} {st:Int} {r:List Bool} (hr:r.length<=sp.length+1) (h:W4 Wh none (Kl Xd (XA x t sp) (UP r) (sp.length+1) 0 [labF t st])=none): ¬(Xc x t sp 0 (labF t st) (YQ r (sp.length+1))).2=0 :=
 TL (by rw [HJ,VL,Hv r _ hr] at h;exact h)
def Jo (x:Inst) (r:Rte):She×Int:=if 0<=r.start/\r.start<=4096/\r.rests.length<=r.visits.length+1 then Xv x r else (zShe,2)
theorem gA {x t sp} {ch:Nat->List Bool} {k:Nat} {l:List Lab} (hok:TrpOk x t sp) (hs:0<sp.length) (hk:k<=sp.length) (h: ∀L∈l,LabO sp.length k L): ∀L∈X9 Xd [] (Vo (XA x t sp) ch k l),LabO sp.length (k+1) L:=fun L hL=>by
 have h1:=AT Xd _ _ L hL;rw [Zz] at h1;obtain ⟨a,ha,hb⟩:=XU.1 h1
 grind [XA,HH]
theorem DK : ∀(c out:List Lab),(X9 Xd out c).length<=out.length+c.length
 | [],out=>by simp [X9]
 | x::c,out=>by
  rw [X9]
  split
  ·have:=DK c out;simp;omega
  ·have:=DK c (out++ [x]);simp at this ⊢;omega
theorem Hn {x t sp} {r:List Bool} {k:Nat} : ∀l:List Lab,(Vo (XA x t sp) (UP r) k l).length<=2*l.length
 | []=>by simp [Vo]
 | a::l=>by
  have ih:=Hn (x:=x) (t:=t) (sp:=sp) (r:=r) (k:=k) l;have h1:(Vo (XA x t sp) (UP r) k (a::l))=(UP r k).filterMap (XA x t sp k a)++Vo (XA x t sp) (UP r) k l:=rfl
  grind [UP]
theorem tG (x:Inst) (r:Rte) (hx:InstOk x) (hl:r.visits.length<=1048576) (hrl:r.rests.length<=1048576) (hty:0<=r.typ/\r.typ<(x.types.length:Int)) (h0:Xg x r.visits=0) :
  PT 232 [.p (Zv x),.p (Wy r)] [.p (Fu (Jo x r).1),.p (.int .i64 (Jo x r).2)]:=by
 have hd:=QG hx;have hsq:=VO h0;have hol:=hd.ord;have htl:=hd.typ;have hvl:=hsq.len hol;have hok:=K7 hx hty hsq;have hsl:(ZO x r.visits).length=r.visits.length:=Yf
 have hs1:0<(ZO x r.visits).length:=by
  rw [hsl];have:=hsq.ne
  grind
 refine Zf [6,13,14] Tryz.func232 rfl ZbN ?_;simp (disch:=omega) only [Tryz.f232,go_sem,seval]
 by_cases hs:0<=r.start/\r.start<=4096
 ·refine Yi (Zdb x r hx hty h0 hs) (Zc ?_);refine cD ?_ ?_<;>intro h1<;>simp (disch:=omega) only [Sh.out h1,go_sem,seval,↓reduceIte]
  ·have e:Jo x r=(zShe,2):=by rw [Jo,if_neg Za]
   rw [e];exact we (by simp (disch:=omega) only [zShe,Zn,go_sem,seval])
  ·have hrs:r.rests.length<=r.visits.length+1:=Za
   have e:Jo x r=Xv x r:=by simp_all [Jo]
   have hbn:= @Pb x (ZE x r) (ZO x r.visits) r.start r.rests Za;rw [e,Xv,IR Za];refine (Hl x (ZE x r) r false (ZO x r.visits)).use (Zc ?_)
   generalize hT:ZE x r=t at *
   generalize hS:ZO x r.visits=sp at *
   refine Zp (Weak.fz (o:=4) (by rfl)) ?_;refine Zg [13,14] _ _ _ _ (Zc ?_)
   refine Z0 [13,14] [3,4,6,8,38] (fun q:Nat×List Lab=> [(9,.p (.list false (q.2.map JN))),(39,.p (.int .i64 q.1))]) (fun _=> [Zi x,Xu r,.cells [.p (.bool false),.p (.int .i64 0),.p (.list true []),.p (.int .i64 0),.p (.int .i64 0)],Wd x t r false sp,.dead])
    (fun q=>q.1<=sp.length+1/\Kl Xd (XA x t sp) (UP r.rests) (sp.length+1) 0 [labF t r.start]=Kl Xd (XA x t sp) (UP r.rests) (sp.length+1-q.1) q.1 q.2/\(∀L∈q.2,LabO sp.length q.1 L)/\q.2.length<=2^q.1) (fun q=>sp.length+1-q.1) (0,[labF t r.start]) ⟨Zb,Zb,fun L hL=>by grind [HI],Zb⟩ (Weak.mk ?_) ?_
   ·simp (disch:=omega) only [Zi,Xu,Wd,Zq,Zn,Z1,ZW,go_sem,seval]
   ·rintro ⟨k,l⟩ ⟨hk,hit,hlo,hll⟩;simp only at hk hit hlo hll;simp (disch:=omega) only [Zi,Xu,Wd,go_sem,seval];refine cD ?_ ?_<;>intro h2<;>simp (disch:=omega) only [Sh.out h2,go_sem,seval,↓reduceIte]
    ·have hk2:k<=sp.length:=Za
     have hp20:2^k<=2^20:=Ys Za Za;refine (Zaj x t r false sp hok hs1 k hk2 hrl l false Za hlo).use (Zc ?_)
     have hn:Kl Xd (XA x t sp) (UP r.rests) (sp.length+1-k) k l=Kl Xd (XA x t sp) (UP r.rests) (sp.length+1-(k+1)) (k+1) (X9 Xd [] (Vo (XA x t sp) (UP r.rests) k l)):=by
      have e:sp.length+1-k=(sp.length+1-(k+1))+1:=Za
      rw [e,Kl]
     have hln:=DK (Vo (XA x t sp) (UP r.rests) k l) [];have hln2:=Hn (x:=x) (t:=t) (sp:=sp) (r:=r.rests) (k:=k) l;exact ⟨(k+1,X9 Xd [] (Vo (XA x t sp) (UP r.rests) k l)),⟨Za,hit.trans hn,gA hok hs1 hk2 hlo,by grind⟩,Za,Weak.mk (by simp (disch:=omega) only [Z1,ZW,go_sem,seval])⟩
    ·have hkn:k=sp.length+1:=Za
     subst hkn;rw [AI,Kl] at hit;rw [hit] at hbn ⊢;clear hit;refine cD ?_ ?_<;>intro h3<;>simp (disch:=omega) only [Sh.out h3,go_sem,seval,↓reduceIte]
     ·have hl0:l= []:=YC Za;subst hl0;have hbn:=hbn rfl;refine YI (IQ 3 rfl rfl (Zc ?_));refine ⟨_,_,NL (e:=4) rfl Tryz.underlying40 Ze rfl rfl rfl ?_ ?_ ?_,?_⟩
      ·simp
      ·simp;omega
      ·intro q hq;obtain ⟨b,_,rfl⟩:=XC.1 hq
       rfl
      ·have hpl:(YQ r.rests (sp.length+1)).length=sp.length+1:=by simp [YQ];omega
       have hpad:r.rests.map eB++(PV.bool false::List.replicate r.visits.length (PV.bool false)).drop (r.rests.map eB).length=(YQ r.rests (sp.length+1)).map eB:=by
        rw [YQ,Xs,<- KI,List.drop_replicate,Av,hsl,ZY];rfl
       have hcr:=ZjY x t r false sp hok hs1 hs (YQ r.rests (sp.length+1)) false hpl;have hbad:=N0 _ _ _ hbn;rw [hbad] at hcr;simp only [Z1,ZW];rw [hpad]
       generalize hRP:YQ r.rests (sp.length+1)=rp at *
       refine Zp (Weak.fz (o:=5) (by rfl)) (Zg [] _ _ _ _ (US ?_));rw [if_pos Za];refine Yi hcr (Zc ?_);have hfm0:W4 Wh none ([]:List Lab)=none:=rfl;rw [hfm0];exact we (by simp (disch:=omega) only [WW,zShe,Zn,go_sem,seval])
     ·cases l with
      | nil=>simp at h3
      | cons l0 l =>
       have e0:Ks ((l0::l).map JN) 0=JN l0:=rfl;have hn0:nth (l0::l) 0=l0:=rfl;simp (disch:=first | omega | (simp only [ZD,ZF,ZG,ZY,Xh,XI]<;>omega)) only [hn0,Yd,go_sem,seval];have hfm:W4 Wh none (l0::l)=W4 Wh (some l0) l:=rfl;rw [hfm]
       have hlen:l.length<=2097152:=by
        have hp20:2^(sp.length+1)<=2^21:=Ys Za Za
        grind
       refine Zl [4,12,65,66] (fun q:Nat×Lab=> [(67,.p (.int .i64 q.1))]) (fun q=> [Zi x,Xu r,.cells [.p (.bool false),.p (.int .i64 0),.p (.list true []),.p (.int .i64 0),.p (.int .i64 0)],Wd x t r false sp,.dead,WZ q.2])
        (fun q=>q.1<=l.length/\W4 Wh (some l0) l=W4 Wh (some q.2) (l.drop q.1)) (fun q=>l.length-q.1) (0,l0) Zb (Weak.mk ?_) ?_
       ·simp (disch:=omega) only [Zi,Xu,Wd,WZ,go_sem,seval]
       ·rintro ⟨i,m⟩ ⟨hi,hm⟩;simp only at hi hm;simp (disch:=omega) only [Zi,Xu,Wd,WZ,go_sem,seval];refine cD ?_ ?_<;>intro h4<;>simp (disch:=omega) only [Sh.out h4,go_sem,seval,↓reduceIte]
        ·have hi2:i<l.length:=Za
         have hdrop:l.drop i=nth l i::l.drop (i+1):=by rw [VF hi2,Zh hi2]
         rw [hdrop,W4] at hm;refine ZR ?_ ?_<;>intro h5
         ·rw [if_pos (show Wh (nth l i)<Wh m from h5)] at hm;exact ⟨(i+1,nth l i),⟨Za,hm⟩,Za,wk⟩
         ·rw [if_neg (show ¬Wh (nth l i)<Wh m from h5)] at hm;exact ⟨(i+1,m),⟨Za,hm⟩,Za,wk⟩
        ·have hil:i=l.length:=Za
         subst hil;rw [UH,W4] at hm;rw [hm];exact we
 ·have e:Jo x r=(zShe,2):=by rw [Jo,if_neg (fun h=>hs ⟨h.1,h.2.1⟩)]
  rw [e];refine Yi (tL x r hty htl hvl hs) ?_;simp (disch:=omega) only [rB,go_sem,seval];exact we (by simp (disch:=omega) only [zShe,Zn,go_sem,seval])
end Go.Proofs.YtenjikkmmibffaaGreatDoor.K
namespace Go.AM
open Go.RowKit
theorem kS (k v:Int) (l:List (Int×Int)): ∃l',kR (.int .i64 k) (.int .i64 v) (l.map eII)=l'.map eII/\(∀q,KN l' q=if q=k then v else KN l q)/\l'.length<=l.length+1:=by
 unfold kR;rw [DC]
 cases hm:HR l k with
 | none =>
  refine ⟨l++ [(k,v)],by simp [eII],fun q=> ?_,Zb⟩
  have e1:HR (l++ [(k,v)]) k=some l.length:=by
   grind [HR]
  by_cases hq:q=k
  ·grind [KN]
  ·rw [if_neg hq];unfold KN
   have e3:HR (l++ [(k,v)]) q=HR l q:=by
    grind [HR]
   rw [e3]
   cases hc:HR l q with
   | none=>rfl
   | some i =>
    unfold HR at hc
    grind [UE]
 | some i =>
  refine ⟨l.set i (k,v),by simp_all [eII],?_,Zb⟩;have hH:oat [.map (l.map eII)] 0= .map (l.map eII):=rfl;have:=PJ (H:= [.map (l.map eII)]) (o:=0) (l:=l) (k:=k) (i:=i) (v:=v) (K:=fun _ _=> ∀q,KN (l.set i (k,v)) q=if q=k then v else KN l q) hH hm fun h=>h;unfold Ae at this;obtain ⟨u,q1,_⟩:=FU hm
  simp_all [Bf]
theorem kT {P:Program} {H:List Obj} {t:TypeId} {o:Nat} {l:List (Int×Int)} {k v:Int} {K:V->List Obj->Prop} (hT:kN P t=some (.int .i64,some (.int .i64 0))) (hH:oat H o= .map (l.map eII))
  (h: ∀l':List (Int×Int),(∀q,KN l' q=if q=k then v else KN l q)->K .junk (H.set o (.map (l'.map eII)))):Bf (D4 P H t (.mp o) (.p (.int .i64 k)) (.p (.int .i64 v))) K:=by
 obtain ⟨kt,et,h1,h2,h3⟩:=Nv hT;obtain ⟨l',e,hg,_⟩:=kS k v l
 grind [D4,HL,Bf]
end Go.AM
namespace Go.Proofs.YtenjikkmmibffaaGreatDoor.K
open Go Go.AM Go.Proofs
set_option maxRecDepth 8000
set_option maxHeartbeats 8000000
def Ft (l:List Vis) (k:Nat) (q:Int):Int:=((l.take k).countP fun v=>decide (v.order=q):Nat)
theorem TX {l:List Vis} {k:Nat} (h:k<l.length) (q:Int):Ft l (k+1) q=if q=(nth l k).order then Ft l k q+1 else Ft l k q:=by
 unfold Ft;rw [X0 h,List.countP_append,Zh h]
 grind
theorem gY {l:List Vis} {k:Nat} (h:k<=l.length) (q:Int):0<=Ft l k q/\Ft l k q<=k:=by
 grind [Ft,Xh]
theorem Pk {l:List Vis} {k:Nat} :UD l k=decide (Ft l k (nth l k).order=0):=by
 unfold UD Ft;rw [Wp];simp
theorem BC (a b:Int):PC 260 [.p (.int .i64 a),.p (.int .i64 b)] (.bool (Xq a b)):=by
 refine Zd Tryz.func260 rfl Zcd ?_;simp (disch:=omega) only [Tryz.f260,go_sem,seval];refine gT ?_ ?_<;>intro h<;>simp (disch:=omega) only [Sh.out h,go_sem,seval,↓reduceIte]
 ·simp [Xq,h]
 simp_all [Xq]
theorem lR (x:Inst) (r:Rte) (s:She) (hty:0<=r.typ/\r.typ<(x.types.length:Int)) (ho:x.orders.length<=1048576) (ht:x.types.length<=1048576) (hl:r.visits.length<=1048576) (hv:Inr x r.visits)
  (hc:0<=(ZE x r).fixed/\(ZE x r).fixed<=100000/\0<=(ZE x r).perMile/\(ZE x r).perMile<=100/\0<=(ZE x r).perTick/\(ZE x r).perTick<=100) (ho2:0<=(ZE x r).opn/\(ZE x r).opn<=4096)
  (hf: -4096<=s.fin/\s.fin<=8192) (hm:0<=s.miles/\s.miles<=1000000) :
  PC 233 [.p (Zv x),.p (Wy r),.p (Fu s)] (Er (DQ x r s)):=by
 have hti:r.typ.toNat<x.types.length:=Za
 have hT:kN Tryz.prog 339=some (.int .i64,some (.int .i64 0)):=Ze
 unfold DQ;have htd:nth x.types r.typ.toNat=ZE x r:=rfl
 generalize ZE x r=t at *
 have e1: ¬r.typ<0:=Za
 have e2: ¬(x.types.length:Int)<=r.typ:=Za
 have p1:0<=t.perMile*s.miles/\t.perMile*s.miles<=100*1000000:=⟨UI Za Za,VG Za Za Za Za⟩
 have hW: -8192<=s.fin-t.opn/\s.fin-t.opn<=8192:=Za
 have p2: -819200<=t.perTick*(s.fin-t.opn)/\t.perTick*(s.fin-t.opn)<=819200:=by
  generalize s.fin-t.opn=w at hW;have a1:=Bz hW.2 (show 0<=t.perTick by omega);have a2:=Bz hW.1 (show 0<=t.perTick by omega);omega
 have p3: -128<=(s.fin-t.opn).tdiv 64/\(s.fin-t.opn).tdiv 64<=128:=by
  grind
 have p4:0<=(s.fin-t.opn).tdiv 64*(s.fin-t.opn).tdiv 64/\(s.fin-t.opn).tdiv 64*(s.fin-t.opn).tdiv 64<=16384:=by
  generalize (s.fin-t.opn).tdiv 64=q at p3;refine ⟨?_,?_⟩
  ·rcases AF 0 q with h | h
   ·exact UI h h
   ·exact Int.mul_nonneg_of_nonpos_of_nonpos h h
  ·rcases AF 0 q with h | h
   ·have:=VG p3.2 p3.2 h Za;omega
   ·have h2:0<= -q:=Za
    have:=VG (show-q<=128 by omega) (show-q<=128 by omega) h2 Za
    grind
 refine Zd Tryz.func233 rfl ZbO ?_;simp (disch:=omega) only [Tryz.f233,e1,e2,htd,go_sem,seval]
 refine Zl [3,4,6,10,11,59,60] (fun q:Nat×List (Int×Int)=> [(61,.p (.int .i64 q.1))]) (fun q=> [Zi x,Xu r,.cells [.p (.bool s.rest),.p (.int .i64 s.dep),.p (.list s.times_c (s.times.map eTim)),.p (.int .i64 s.fin),.p (.int .i64 s.miles)],C8 0 0 0 0,Yh t,C8 (t.fixed+t.perMile*s.miles+t.perTick*(s.fin-t.opn)) (chgF x r.visits r.typ q.1).1 (chgF x r.visits r.typ q.1).2 ((s.fin-t.opn).tdiv 64*(s.fin-t.opn).tdiv 64),.map (q.2.map eII)])
  (fun q=>q.1<=r.visits.length/\ ∀n,KN q.2 n=Ft r.visits q.1 n) (fun q=>r.visits.length-q.1) (0,[]) ⟨Zb,fun n=>rfl⟩ (Weak.mk ?_) ?_
 ·simp (disch:=omega) only [Zi,Xu,Yh,C8,chgF,go_sem,seval]
 ·rintro ⟨k,m⟩ ⟨hk,hmg⟩;simp only at hk hmg;have hch:=B7 (x:=x) (l:=r.visits) (t:=r.typ) k;simp (disch:=omega) only [Zi,Xu,Yh,C8,go_sem,seval];refine cD ?_ ?_<;>intro h1<;>simp (disch:=omega) only [Sh.out h1,go_sem,seval,↓reduceIte]
  ·have hk2:k<r.visits.length:=Za
   obtain ⟨v1,v2⟩:=hv _ (Zt hk2)
   have e3: ¬(nth r.visits k).order<0:=Za
   have e4: ¬(x.orders.length:Int)<=(nth r.visits k).order:=Za
   have v3:(nth r.visits k).order.toNat<x.orders.length:=Za
   have hcs:=TX hk2;have hcr:=gY hk (nth r.visits k).order;have hfi:=Pk (l:=r.visits) (k:=k);have hch2:chgF x r.visits r.typ (k+1)=_:=chgF.eq_2 x r.visits r.typ k;refine Ns hT rfl ?_;rw [hmg];refine Zc ?_;refine kT hT rfl fun m' hm'=> ?_
   have hmg': ∀n,KN m' n=Ft r.visits (k+1) n:=fun n=>by grind
   simp (disch:=omega) only [e3,e4,Z1,ZW,go_sem,seval];refine Ns hT rfl ?_;rw [hm',if_pos rfl];refine Zc ?_;refine ZR ?_ ?_<;>intro h2
   ·have h3: ¬UD r.visits k=true:=by grind
    rw [if_neg h3] at hch2;exact ⟨(k+1,m'),⟨Za,hmg'⟩,Za,Weak.mk (by simp (disch:=omega) only [hch2,go_sem,seval])⟩
   ·have h3:UD r.visits k=true:=by grind
    rw [if_pos h3] at hch2;refine (BC (nth x.orders (nth r.visits k).order.toNat).now r.typ).use (Zc ?_);refine cD ?_ ?_<;>intro h4<;>simp (disch:=omega) only [Sh.out h4,go_sem,seval,↓reduceIte]
    ·rw [if_pos h4] at hch2;refine (BC (nth x.orders (nth r.visits k).order.toNat).last r.typ).use (Zc ?_);refine ZR ?_ ?_<;>intro h5
     ·rw [if_pos h5] at hch2;exact ⟨(k+1,m'),⟨Za,hmg'⟩,Za,Weak.mk (by simp (disch:=omega) only [hch2,go_sem,seval])⟩
     ·rw [if_neg (by rw [h5];simp)] at hch2;exact ⟨(k+1,m'),⟨Za,hmg'⟩,Za,Weak.mk (by simp (disch:=omega) only [hch2,UL,go_sem,seval])⟩
    ·rw [if_neg (by rw [h4];simp)] at hch2;refine (BC (nth x.orders (nth r.visits k).order.toNat).last r.typ).use (Zc ?_);refine ZR ?_ ?_<;>intro h5
     ·rw [if_pos h5] at hch2;exact ⟨(k+1,m'),⟨Za,hmg'⟩,Za,Weak.mk (by simp (disch:=omega) only [hch2,UL,go_sem,seval])⟩
     ·rw [if_neg (by rw [h5];simp)] at hch2;exact ⟨(k+1,m'),⟨Za,hmg'⟩,Za,Weak.mk (by simp (disch:=omega) only [hch2,UL,go_sem,seval])⟩
  grind
end Go.Proofs.YtenjikkmmibffaaGreatDoor.K
namespace Go.Proofs.YtenjikkmmibffaaGreatDoor.K
open Go Go.AM Go.Proofs
set_option maxRecDepth 8000
set_option maxHeartbeats 8000000
@[go_sem] theorem ZeL {f:FuncId} :(PV.fn f).cells= [.fn f]:=Zk rfl rfl
def Zdr : AM.Obj:= .cells [.p (.bool false),.p (.int .i64 0),.p (.list true []),.p (.int .i64 0),.p (.int .i64 0)]
theorem Pn (x:Inst) (r:Rte) (hx:InstOk x) (hl:r.visits.length<=1048576) (hrl:r.rests.length<=1048576):ACalls Tryz.prog 218 [.p (Zv x),.p (Wy r)] [] fun y H'=>y=Cc x r/\H'= []:=by
 have hld:=QG hx;have htl:=hld.typ;have hol:=hld.ord;have chk:=lS x r hx hl
 have htb:x.types.length<=6:=by have:=hx.types.1;simp only [rng,Zs] at this;omega
 refine Zf [] Tryz.func218 rfl ZbC ?_;simp (disch:=omega) only [Tryz.f218,go_sem,seval];refine gF ?_ ?_<;>intro h1<;>simp (disch:=omega) only [Sh.out h1,go_sem,seval,↓reduceIte]
 ·have e:XW x r=2:=by rw [XW,if_pos Za]
  rw [YF (e:=2) (by rw [Xw,e];rfl) Za];exact we (by simp (disch:=omega) only [zShe,zSco,Zn,go_sem,seval])
 ·refine cD ?_ ?_<;>intro h2<;>simp (disch:=omega) only [Sh.out h2,go_sem,seval,↓reduceIte]
  ·have e:XW x r=2:=by simp_all [XW]
   rw [YF (e:=2) (by rw [Xw,e];rfl) Za];exact we (by simp (disch:=omega) only [zShe,zSco,Zn,go_sem,seval])
  ·have hty:0<=r.typ/\r.typ<(x.types.length:Int):=Za
   have hti:r.typ.toNat<x.types.length:=Za
   have hnum:=WM hx hti;have htyp:nth x.types r.typ.toNat=ZE x r:=rfl;rw [htyp] at hnum
   have hsk: ∀o∈x.orders,o.skills<9223372036854775808:=fun o hm=>by
    obtain ⟨i,hi,rfl⟩:=ZN.1 hm;have:=(hx.orders.2 i hi).skills
    grind [Zh]
   refine Zl [2,3,4,5,25,26] (fun k:Nat=> [(27,.p (.int .i64 k))]) (fun _=> [Zi x,Xu r,Zdr,C8 0 0 0 0,.elems 1 [.fn 229,.fn 230,.fn 231]])
    (fun k=>k<=3/\(0<k->Xg x r.visits=0)/\(1<k-> ¬(r.visits.any fun v=> !Yk (ZE x r) (nth x.orders v.order.toNat).skills)=true)/\(2<k->Qn x (ZE x r).cap r.visits=true)) (fun k=>3-k) 0 ⟨Za,Za,Za,Za⟩ (Weak.mk ?_) ?_
   ·simp (disch:=omega) only [Zi,Xu,C8,Zdr,go_sem,seval]
   ·rintro k ⟨hk,k1,k2,k3⟩;simp (disch:=omega) only [Zi,Xu,C8,Zdr,go_sem,seval];refine cD ?_ ?_<;>intro h3<;>simp (disch:=omega) only [Sh.out h3,go_sem,seval,↓reduceIte]
    ·by_cases hk0:k=0
     ·subst hk0;have he:Ks [PV.fn 229,PV.fn 230,PV.fn 231] 0=PV.fn 229:=rfl;simp (disch:=first | omega | (simp only [ZD,ZF,ZG,ZY,Xh,XI]<;>omega)) only [he,go_sem,seval,↓reduceIte];refine (chk).use (Zc ?_);refine ZR ?_ ?_<;>intro h4
      ·have e:XW x r=Xg x r.visits:=by simp_all [XW]
       rw [YF (e:=Xg x r.visits) (by simp_all [Xw]) h4];exact we (by simp (disch:=omega) only [zShe,zSco,Zn,go_sem,seval])
      ·exact ⟨1,⟨Za,fun _=>Za,Za,Za⟩,Za,wk⟩
     ·have h0:=k1 Za;have hsq:=VO h0
      have hr0:XW x r=if (r.visits.any fun v=> !Yk (ZE x r) (nth x.orders v.order.toNat).skills)=true then 18 else if Qn x (ZE x r).cap r.visits=false then 17 else if ¬(0<=r.start/\r.start<=4096/\r.rests.length<=r.visits.length+1) then 2 else 0:=by
       rw [XW,if_neg (fun h=>h hty),if_neg Za]
      by_cases hk1:k=1
      ·subst hk1;have he:Ks [PV.fn 229,PV.fn 230,PV.fn 231] 1=PV.fn 230:=rfl;simp (disch:=first | omega | (simp only [ZD,ZF,ZG,ZY,Xh,XI]<;>omega)) only [he,go_sem,seval,↓reduceIte];refine (lQ x r hty (fun v hv=>by have:=hsq.inr v hv;grind [Nh]) hl htl Za Za hsk).use (Zc ?_)
       by_cases h5:(r.visits.any fun v=> !Yk (ZE x r) (nth x.orders v.order.toNat).skills)=true
       ·rw [if_pos h5] at hr0 ⊢;rw [YF (e:=18) (by rw [Xw,hr0];rfl) Za];refine Zc ?_;exact we (by simp (disch:=omega) only [zShe,zSco,Zn,go_sem,seval])
       ·rw [if_neg h5];refine Zc ?_;exact ⟨2,⟨Za,fun _=>h0,fun _=>h5,Za⟩,Za,wk⟩
      ·have hk2:k=2:=Za
       subst hk2;have he:Ks [PV.fn 229,PV.fn 230,PV.fn 231] 2=PV.fn 231:=rfl;simp (disch:=first | omega | (simp only [ZD,ZF,ZG,ZY,Xh,XI]<;>omega)) only [he,go_sem,seval,↓reduceIte];refine (lM x r hx hl hty h0).use (Zc ?_);rw [if_neg (k2 Za)] at hr0
       cases h5:Qn x (ZE x r).cap r.visits with
       | false =>
        rw [if_pos h5] at hr0;rw [YF (e:=17) (by rw [Xw,hr0];rfl) Za];simp only [YX,YE];refine Zc ?_;exact we (by simp (disch:=omega) only [zShe,zSco,Zn,go_sem,seval])
       | true =>
        simp only [if_true];refine Zc ?_;exact ⟨3,⟨Za,fun _=>h0,fun _=>k2 Za,fun _=>Zb⟩,Za,wk⟩
    ·have hk3:k=3:=Za
     subst hk3;have h0:=k1 Za;have hsq:=VO h0
     have hr0:XW x r=if ¬(0<=r.start/\r.start<=4096/\r.rests.length<=r.visits.length+1) then 2 else 0:=by
      rw [XW,if_neg (fun h=>h hty),if_neg Za,if_neg (k2 Za),if_neg (by grind)]
     have cb:=tG x r hx hl hrl hty h0;have hok:=K7 hx hty hsq
     have hbr:Jo x r=Xv x r->(Xv x r).2=0->(0<=r.start/\r.start<=4096/\r.rests.length<=r.visits.length+1)->(0<=(Xv x r).1.fin/\(Xv x r).1.fin<=8192)/\(0<=(Xv x r).1.miles/\(Xv x r).1.miles<=210000):=fun _ hz hs =>
      Fo hok ⟨hs.1,hs.2.1⟩ (by grind [Yf]) hz
     by_cases h6:0<=r.start/\r.start<=4096/\r.rests.length<=r.visits.length+1
     ·have e:XW x r=0:=Za
      have ee:Xw x r=(Xv x r).2:=by rw [Xw,if_pos e]
      have eb:Jo x r=Xv x r:=by rw [Jo,if_pos h6]
      have hbr:=fun hz=>hbr eb hz h6;rw [eb] at cb
      have es:X8 x r=if (Xv x r).2=0 then (Xv x r).1 else zShe:=by rw [X8,ee]
      have ep:Wg x r=if (Xv x r).2=0 then DQ x r (Xv x r).1 else zSco:=by rw [Wg,ee]
      unfold Cc;rw [ee,es,ep];clear ee es ep eb
      generalize Xv x r=q at *
      obtain ⟨sh,eb⟩:=q;simp only at cb hbr ⊢;refine Yi cb (Zc ?_);refine cD ?_ ?_<;>intro h7<;>simp (disch:=omega) only [Sh.out h7,go_sem,seval,↓reduceIte]
      ·exact we (by simp (disch:=omega) only [zShe,zSco,Zn,go_sem,seval])
      ·have h7':eb=0:=Za
       try rw [if_pos h7',if_pos h7']
       subst h7';obtain ⟨g1,g2⟩:=hbr rfl;refine ZC 5 mixed Ze Ze (Zc ?_);refine Zo (lR x r sh hty Za htl hl hsq.inr hnum.2.2.2.1 Za Za Za) (Zc ?_);exact we
     ·have e:XW x r=2:=Za
      have eb:Jo x r=(zShe,2):=by rw [Jo,if_neg h6]
      rw [YF (e:=2) (by rw [Xw,e];rfl) Za];rw [eb] at cb;refine Yi cb (Zc ?_);exact we (by simp (disch:=omega) only [zShe,zSco,Zn,go_sem,seval])
theorem Uj {x:Inst} {r:Rte} (h:Xw x r=0):XW x r=0:=by
 grind [Xw]
theorem Qb {x:Inst} {r:Rte} (h:XW x r=0):(0<=r.typ/\r.typ<(x.types.length:Int))/\Xg x r.visits=0/\(0<=r.start/\r.start<=4096/\r.rests.length<=r.visits.length+1):=by
 unfold XW at h;omega
theorem MU {x:Inst} {r:Rte} (hx:InstOk x) (h:Xw x r=0):(0<=(X8 x r).fin/\(X8 x r).fin<=8192)/\(0<=(X8 x r).miles/\(X8 x r).miles<=210000):=by
 obtain ⟨hty,h0,hs⟩:=Qb (Uj h)
 have e:X8 x r=(Xv x r).1:=by rw [X8,if_pos h]
 have ee:(Xv x r).2=0:=by rw [Xw,if_pos (Uj h)] at h;exact h
 rw [e];exact Fo (K7 hx hty (VO h0)) ⟨hs.1,hs.2.1⟩ (by grind [Yf]) ee
theorem Ht {x:Inst} {r:Rte} (hx:InstOk x) (hl:r.visits.length<=1048576) (h:Xw x r=0):scoR 1073741824 (Wg x r):=by
 have hg:=MU hx h;obtain ⟨hty,_,_⟩:=Qb (Uj h);have hnum:=WM hx (show r.typ.toNat<x.types.length by omega);have htyp:nth x.types r.typ.toNat=ZE x r:=rfl;rw [htyp] at hnum
 have e:(Xv x r).1=X8 x r:=by rw [X8,if_pos h]
 have hch:=B7 (x:=x) (l:=r.visits) (t:=r.typ) r.visits.length;rw [Wg,if_pos h,e];unfold DQ scoR
 generalize X8 x r=s at *
 generalize ZE x r=t at *
 have p1:0<=t.perMile*s.miles/\t.perMile*s.miles<=100*210000:=⟨UI Za Za,VG Za Za Za Za⟩
 have hW: -8192<=s.fin-t.opn/\s.fin-t.opn<=8192:=Za
 have p2: -819200<=t.perTick*(s.fin-t.opn)/\t.perTick*(s.fin-t.opn)<=819200:=by
  generalize s.fin-t.opn=w at hW;have a1:=Bz hW.2 (show 0<=t.perTick by omega);have a2:=Bz hW.1 (show 0<=t.perTick by omega);omega
 have p3: -128<=(s.fin-t.opn).tdiv 64/\(s.fin-t.opn).tdiv 64<=128:=by
  grind
 have p4:0<=(s.fin-t.opn).tdiv 64*(s.fin-t.opn).tdiv 64/\(s.fin-t.opn).tdiv 64*(s.fin-t.opn).tdiv 64<=16384:=by
  generalize (s.fin-t.opn).tdiv 64=q at p3;refine ⟨?_,?_⟩
  ·rcases AF 0 q with h | h
   ·exact UI h h
   ·exact Int.mul_nonneg_of_nonpos_of_nonpos h h
  ·rcases AF 0 q with h | h
   ·have:=VG p3.2 p3.2 h Za;omega
   ·have h2:0<= -q:=Za
    have:=VG (show-q<=128 by omega) (show-q<=128 by omega) h2 Za
    grind
 grind
def YL (x:Inst) (r:Rte):Int×Int:=if Xw x r=0 then YA (Wg x r) else (0,Xw x r)
theorem nZ (s:Sco):0<=(YA s).1/\(YA s).1<=36028797018963968:=by
 grind [YA]
theorem NS (x:Inst) (r:Rte):0<=(YL x r).1/\(YL x r).1<=36028797018963968:=by
 unfold YL
 split
 ·exact nZ _
 ·simp
theorem cM (x:Inst) (r:Rte) (hx:InstOk x) (hb:Zdm r):PT 189 [.p (Zv x),.p (Wy r)] [.p (.int .i64 (YL x r).1),.p (.int .i64 (YL x r).2)]:=by
 have ce:=Pn x r hx hb.1 hb.2;refine Zf [] Tryz.func189 rfl Zbl ?_;simp (disch:=omega) only [Tryz.f189,go_sem,seval];unfold Cc at ce;refine OB ce (Zc ?_);refine cD ?_ ?_<;>intro h1<;>simp (disch:=omega) only [Sh.out h1,go_sem,seval,↓reduceIte]
 ·rw [YL,if_neg h1];exact we
 ·have h0:Xw x r=0:=Za
  rw [YL,if_pos h0];refine W3 (HU (Wg x r) (AV Za (Ht hx hb.1 h0))) (Zc ?_);exact we
theorem NY (x:Inst) (r:Rte) (hx:InstOk x) (hb:Zdm r):PT 128 [.p (Zv x),.p (Wy r)] [.p (.int .i64 (YL x r).1),.p (.int .i64 (YL x r).2)]:=by
 have ce:=Cd x r hx hb.1 hb.2;refine Zf [] Tryz.func128 rfl ZaH ?_;simp (disch:=omega) only [Tryz.f128,go_sem,seval];unfold Cc at ce;refine OB ce (Zc ?_);refine cD ?_ ?_<;>intro h1<;>simp (disch:=omega) only [Sh.out h1,go_sem,seval,↓reduceIte]
 ·rw [YL,if_neg h1];exact we
 ·have h0:Xw x r=0:=Za
  rw [YL,if_pos h0];refine W3 (GL (Wg x r) (AV Za (Ht hx hb.1 h0))) (Zc ?_);exact we
end Go.Proofs.YtenjikkmmibffaaGreatDoor.K
