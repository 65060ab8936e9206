/- Declarations that the closing texts need, part 13: joined by tools/slim.py. -/
import Derived.Test.YtjkkdmeebhjaiaaGreatDoorZ12
set_option linter.unusedVariables false
set_option linter.unusedSimpArgs false
namespace Go.Proofs.YtjkkdmeebhjaiaaGreatDoor.K
open Go Go.AM Go.Proofs
def ED (x:Inst) (l:List Vis) (n i:Nat):Bool:=(l.take n).foldl (fun on v=>if v.order=(i:Int) then !v.drp else on) (decide ((nth x.orders i).pick.place<0))
theorem mF {x:Inst} {l:List Vis} {i:Nat} :ED x l 0 i=decide ((nth x.orders i).pick.place<0):=by simp [ED]
theorem Gh {x:Inst} {l:List Vis} {n i:Nat} (h:n<l.length):ED x l (n+1) i=if (nth l n).order=(i:Int) then !(nth l n).drp else ED x l n i:=by
 grind [ED,Ya,Zi]
structure SqOk (x:Inst) (l:List Vis):Prop where
 ne:l≠ []
 inr:Inr x l
 nd:l.Nodup
 pair: ∀v∈l,pairB x.orders l v=true
theorem VW {x:Inst} {l:List Vis} (h:Xf x l=0):SqOk x l:=by
 unfold Xf at h
 split at h
 ·simp at h
 ·rename_i h1
  split at h
  ·simp at h
  ·split at h
   ·simp at h
   ·rename_i h3
    split at h
    ·simp at h
    ·rename_i h4;refine ⟨fun e=>h1 (.inl (by simp [e])),fun v hv=> ?_,BX.1 (by grind),fun v hv=> ?_⟩
     ·grind [WJ]
     grind
structure OwnV (x:Inst) (l:List Vis) (i:Nat):Prop where
 pick:0<=(nth x.orders i).pick.place->(⟨i,false⟩:Vis)∈l
 drp:0<=(nth x.orders i).drp.place->(⟨i,true⟩:Vis)∈l
 both:0<=(nth x.orders i).pick.place->0<=(nth x.orders i).drp.place->vIx l ⟨i,false⟩<vIx l ⟨i,true⟩
 isP:(⟨i,false⟩:Vis)∈l->0<=(nth x.orders i).pick.place
 isD:(⟨i,true⟩:Vis)∈l->0<=(nth x.orders i).drp.place
theorem SqOk.own {x:Inst} {l:List Vis} (h:SqOk x l) {i:Nat} (hi: ∃v∈l,v.order=(i:Int)):OwnV x l i:=by
 obtain ⟨v0,hv0,ho⟩:=hi
 have key: ∀v∈l,v.order=(i:Int)->v∈ZT x.orders i/\Q3 l (-1) (ZT x.orders i)=true:=fun v hv hvo=>by
  have:=h.pair v hv;simp only [pairB,hvo,XK,Zw,Zq] at this;exact ⟨WI.1 this.1,this.2⟩
 obtain ⟨_,hasc⟩:=key v0 hv0 ho;have mem: ∀b:Bool,(⟨i,b⟩:Vis)∈l->(⟨i,b⟩:Vis)∈ZT x.orders i:=fun b hb=>(key _ hb rfl).1
 have hp:(⟨i,false⟩:Vis)∈ZT x.orders i->0<=(nth x.orders i).pick.place:=fun hm=>by
  unfold ZT at hm
  grind
 have hd:(⟨i,true⟩:Vis)∈ZT x.orders i->0<=(nth x.orders i).drp.place:=fun hm=>by
  unfold ZT at hm
  grind
 have m1: ∀v,-1<vIx l v->v∈l:=fun v hv=>WI.1 Za;unfold ZT at hasc
 by_cases c1:0<=(nth x.orders i).pick.place<;>by_cases c2:0<=(nth x.orders i).drp.place
 ·simp only [c1,c2,if_true,ZP,ZC,Q3,QL,Zw,Zq] at hasc;exact ⟨fun _=>m1 _ hasc.1,fun _=>m1 _ Za,fun _ _=>hasc.2,fun _=>c1,fun _=>c2⟩
 ·simp only [c1,c2,if_true,Ye,Yr,Q3,QL,Zq] at hasc;exact ⟨fun _=>m1 _ hasc,fun h=>absurd h c2,fun _ h=>absurd h c2,fun _=>c1,fun hm=>hd (mem _ hm)⟩
 ·simp only [c1,c2,if_true,Ye,ZC,Q3,QL,Zq] at hasc;exact ⟨fun h=>absurd h c1,fun _=>m1 _ hasc,fun h=>absurd h c1,fun hm=>hp (mem _ hm),fun _=>c2⟩
 ·exact ⟨fun h=>absurd h c1,fun h=>absurd h c2,fun h=>absurd h c1,fun hm=>hp (mem _ hm),fun hm=>hd (mem _ hm)⟩
theorem JL {l:List Vis} (hn:l.Nodup) {v:Vis} {n:Nat} :v∈l.take n↔0<=vIx l v/\vIx l v<(n:Int):=by
 constructor
 ·intro h;obtain ⟨j,h1,h2,rfl⟩:=QB h
  grind [Jj]
 ·intro ⟨h1,h2⟩;obtain ⟨h3,h4⟩:=Fe h1
  grind [KX]
theorem mD {x:Inst} {l:List Vis} (h:SqOk x l) (i:Nat): ∀n,n<=l.length->ED x l n i=if (⟨i,true⟩:Vis)∈l.take n then false else if (⟨i,false⟩:Vis)∈l.take n then true else decide ((nth x.orders i).pick.place<0)
 | 0,_=>by simp [ED]
 | n+1,hn=>by
  have hk:n<l.length:=Za
  have hat:=Jj h.nd hk;rw [Gh hk,mD h i n Za]
  by_cases c:(nth l n).order=(i:Int)
  ·rw [if_pos c];have ho:=h.own (i:=i) ⟨nth l n,Zt hk,c⟩
   cases hd:(nth l n).drp with
   | true =>
    have hv:nth l n=⟨i,true⟩:=by rw [<- c,<- hd]
    rw [hv] at hat;have:(⟨i,true⟩:Vis)∈l.take (n+1):=(JL h.nd).2 Za;rw [if_pos this];rfl
   | false =>
    have hv:nth l n=⟨i,false⟩:=by rw [<- c,<- hd]
    rw [hv] at hat;have h1:(⟨i,false⟩:Vis)∈l.take (n+1):=(JL h.nd).2 Za
    have h2: ¬(⟨i,true⟩:Vis)∈l.take (n+1):=fun hm=>by
     have h3:=Kh hm;have h4:=(JL h.nd).1 hm;have h5:=ho.both (ho.isP (Kh h1)) (ho.isD h3);omega
    rw [if_neg h2,if_pos h1];rfl
  ·rw [if_neg c]
   have e: ∀b:Bool,((⟨i,b⟩:Vis)∈l.take (n+1))=((⟨i,b⟩:Vis)∈l.take n):=fun b=>by
    rw [Ya hk,Xe,<- Zi hk];refine propext ⟨fun hm=>hm.resolve_right fun hm=> ?_,.inl⟩;simp at hm;exact c (by rw [<- hm])
   simp only [e]
theorem ZdF {x:Inst} {l:List Vis} (h:SqOk x l) {k i:Nat} (hk:k<l.length) (hi:(nth l k).order=(i:Int)):ED x l k i=(nth l k).drp:=by
 have hat:=Jj h.nd hk;have ho:=h.own (i:=i) ⟨nth l k,Zt hk,hi⟩;have hm:=Zt hk;rw [mD h i k Za]
 cases hd:(nth l k).drp with
 | true =>
  have hv:nth l k=⟨i,true⟩:=by rw [<- hi,<- hd]
  rw [hv] at hat hm
  have h1: ¬(⟨i,true⟩:Vis)∈l.take k:=fun hm=>by have:=(JL h.nd).1 hm;omega
  rw [if_neg h1]
  by_cases c:0<=(nth x.orders i).pick.place
  ·have h2:=ho.both c (ho.isD hm);have h3:(⟨i,false⟩:Vis)∈l.take k:=(JL h.nd).2 ⟨WI.2 (ho.pick c),Za⟩
   grind
  grind
 | false =>
  have hv:nth l k=⟨i,false⟩:=by rw [<- hi,<- hd]
  rw [hv] at hat hm;have hp:=ho.isP hm
  have h1: ¬(⟨i,false⟩:Vis)∈l.take k:=fun hm=>by have:=(JL h.nd).1 hm;omega
  grind
theorem wG {f g:Nat->Int} {i:Nat} (h: ∀q,q≠i->f q=g q): ∀n,i<n->((List.range n).map f).sum=((List.range n).map g).sum+(f i-g i):=by
 have same: ∀n,n<=i->((List.range n).map f).sum=((List.range n).map g).sum:=fun n hn=>by
  grind [Wj]
 intro n
 induction n with
 | zero=>omega
 | succ n ih =>
  intro hi;simp only [Yl,XC,Zs,Zk,List.sum_append,List.sum_cons,List.sum_nil]
  grind
theorem Tq {f:Nat->Int} {b:Int} (hb:0<=b) (h: ∀q,0<=f q/\f q<=b): ∀n:Nat,0<=((List.range n).map f).sum/\((List.range n).map f).sum<=b*n
 | 0=>Zb
 | n+1=>by
  have ih:=Tq hb h n
  grind [Yl]
theorem Ko {p:Nat->Bool} {f:Nat->Int} : ∀l:List Nat,((l.filter p).map f).sum=(l.map fun i=>if p i=true then f i else 0).sum
 | []=>rfl
 | a::l=>by
  rw [EX,Zs,List.sum_cons]
  by_cases h:p a=true
  ·rw [if_pos h,Zs,List.sum_cons,Ko l,if_pos h]
  ·rw [if_neg h,Ko l,if_neg h];omega
def Dl (x:Inst) (l:List Vis) (n j:Nat):Int:=((List.range x.orders.length).map fun i=>if (ED x l n i&&hasO l i)=true then nth (nth x.orders i).load j else 0).sum
theorem ID {x:Inst} {l:List Vis} (h:SqOk x l) {k j:Nat} (hk:k<l.length):Dl x l (k+1) j=if (nth l k).drp=true then Dl x l k j-nth (nth x.orders (nth l k).order.toNat).load j else Dl x l k j+nth (nth x.orders (nth l k).order.toNat).load j:=by
 obtain ⟨v1,v2⟩:=h.inr _ (Zt hk);obtain ⟨i,hi⟩: ∃i:Nat,(nth l k).order=(i:Int):=⟨(nth l k).order.toNat,Za⟩;have hh:hasO l (i:Int)=true:=Ve.2 ⟨_,Zt hk,hi⟩;have h1:=ZdF h hk hi
 have h2:ED x l (k+1) i= !(nth l k).drp:=by simp_all [Gh]
 unfold Dl
 rw [wG (f:=fun i=>if (ED x l (k+1) i&&hasO l i)=true then nth (nth x.orders i).load j else 0) (g:=fun i=>if (ED x l k i&&hasO l i)=true then nth (nth x.orders i).load j else 0) (i:=i) (fun q hq=>by
  have:ED x l (k+1) q=ED x l k q:=by rw [Gh hk,if_neg Za]
  grind) x.orders.length Za]
 grind
def Y2 (x:Inst) (l:List Vis) (n:Nat):List Int:=(List.range (dimsOf x.types).toNat).map fun j=>Dl x l n j
def Fk (a b:List Int):List Int:=(List.range a.length).map fun j=>nth a j+nth b j
def wD (a b:List Int):List Int:=(List.range a.length).map fun j=>nth a j-nth b j
theorem Fl {x:Inst} {l:List Vis} {n:Nat} :(Y2 x l n).length=(dimsOf x.types).toNat:=by simp [Y2]
theorem K2 {f:Nat->Int} {n j:Nat} (h:j<n):nth ((List.range n).map f) j=f j:=by
 grind [Zi]
theorem TH {x:Inst} {l:List Vis} (h:SqOk x l) {k:Nat} (hk:k<l.length):Y2 x l (k+1)=if (nth l k).drp=true then wD (Y2 x l k) (nth x.orders (nth l k).order.toNat).load else Fk (Y2 x l k) (nth x.orders (nth l k).order.toNat).load:=by
 have key: ∀g:Nat->Int,(∀j,j<(dimsOf x.types).toNat->Dl x l (k+1) j=g j)->Y2 x l (k+1)=(List.range (dimsOf x.types).toNat).map g:=fun g hg =>
  Wj fun j hj=>hg j (ZM.1 hj)
 split
 ·simp_all [wD,ID,Y2,K2]
 simp_all [Fk,ID,Y2,K2]
set_option maxRecDepth 8000
section
variable {σ : Type}
def Bn (nx:List Vis->List Vis):Nat->List Vis->List (List Vis)
 | 0,l=> [l]
 | f+1,l=>if nx l= [] then [l] else (nx l).flatMap fun v=>Bn nx f (l++ [v])
def lvW (nx:List Vis->List Vis) (go:σ->Vis->σ) (emp:σ->Bool):Nat->List Vis->σ->List (List Vis)
 | 0,l,_=> [l]
 | f+1,l,s=>(nx l).flatMap fun v=>if emp (go s v)=true then [] else lvW nx go emp f (l++ [v]) (go s v)
theorem SL {nx:List Vis->List Vis} : ∀(f:Nat) (l m:List Vis),m∈Bn nx f l-> ∃r,m=l++r
 | 0,l,m,h=>by simp_all [Bn]
 | f+1,l,m,h=>by
  rw [Bn] at h
  split at h
  ·simp_all
  ·obtain ⟨v,_,h⟩:=X1.1 h;obtain ⟨r,rfl⟩:=SL f _ m h;simp
theorem UD {α β:Type} {p:β->Bool} {g:α->List β} : ∀l:List α,(l.flatMap g).filter p=l.flatMap fun a=>(g a).filter p
 | []=>rfl
 | a::l=>by rw [UH,UH,List.filter_append,UD l]
theorem Cl {α β:Type} {g h:α->List β} : ∀ {l:List α},(∀a∈l,g a=h a)->l.flatMap g=l.flatMap h
 | [],_=>rfl
 | a::l,e=>by rw [UH,UH,e a Zb,Cl fun b hb=>e b (Yq _ hb)]
theorem yI {nx:List Vis->List Vis} {go:σ->Vis->σ} {emp:σ->Bool} {ok:List Vis->Bool} {G:List Vis->Prop} {R:List Vis->σ->Prop} {tot:Nat}
  (hG: ∀l v,G l->v∈nx l->G (l++ [v])) (hR: ∀l s v,G l->R l s->v∈nx l->R (l++ [v]) (go s v)) (hE: ∀l s,G l->R l s->emp s=true-> ∀r,ok (l++r)=false)
  (hN: ∀l,G l->l.length<tot->nx l≠ []): ∀(f:Nat) (l:List Vis) (s:σ),G l->R l s->l.length+f=tot->(Bn nx f l).filter ok=(lvW nx go emp f l s).filter ok
 | 0,l,s,_,_,_=>rfl
 | f+1,l,s,hl,hs,ht=>by
  rw [Bn,lvW,if_neg (hN l hl Za),UD,UD];refine Cl fun v hv=> ?_;have h1:=hG l v hl hv;have h2:=hR l s v hl hs hv
  split
  ·rename_i he;rw [List.filter_nil,List.filter_eq_nil_iff];intro m hm;obtain ⟨r,rfl⟩:=SL f _ m hm
   grind
  ·exact yI hG hR hE hN f _ _ h1 h2 (by simp;omega)
def XH (ok:List Vis->Bool) (col:List Vis->Col) (better:Col->Col->Bool) (b:Col×Bool) (l:List Vis):Col×Bool:=if ok l=true/\(b.2=false\/better (col l) b.1=true) then (col l,true) else b
theorem QV {ok:List Vis->Bool} {col:List Vis->Col} {better:Col->Col->Bool} : ∀(L:List (List Vis)) (b:Col×Bool),L.foldl (XH ok col better) b=(L.filter ok).foldl (XH ok col better) b
 | [],b=>rfl
 | l::L,b=>by
  rw [XT,EX]
  split
  ·rw [XT];exact QV L _
  ·rename_i h;rw [XH,if_neg (fun g=>h g.1)];exact QV L b
theorem GW {ok:List Vis->Bool} {col:List Vis->Col} {better:Col->Col->Bool} : ∀(L:List (List Vis)) (c c':Col),(L.foldl (XH ok col better) (c,false)).2=(L.foldl (XH ok col better) (c',false)).2/\((L.foldl (XH ok col better) (c,false)).2=true->(L.foldl (XH ok col better) (c,false)).1=(L.foldl (XH ok col better) (c',false)).1)
 | [],c,c'=>⟨rfl,fun h=>by cases h⟩
 | l::L,c,c'=>by
  rw [XT,XT]
  by_cases h:ok l=true
  ·rw [XH,if_pos ⟨h,.inl rfl⟩,XH,if_pos ⟨h,.inl rfl⟩];simp
  ·rw [XH,if_neg (fun g=>h g.1),XH,if_neg (fun g=>h g.1)];exact GW L c c'
end
set_option maxHeartbeats 8000000
theorem Gp (l:List Pt) (c d:Bool) (hl:l.length<=1048576):PC 68 [.p (.list c (l.map G4)),.p (.list d (l.map G4))] (.bool true):=by
 refine Zc Tryz.func68 rfl ZjN ?_;simp (disch:=omega) only [Tryz.f68,go_sem,seval];refine Zl [0,1] (fun k:Nat=> [(5,.p (.int .i64 k))]) (fun _=> []) (fun k=>k<=l.length) (fun k=>l.length-k) 0 Zb (Weak.mk ?_) ?_
 ·simp (disch:=omega) only [go_sem,seval,↓reduceIte]
 ·intro k hk;refine Zd ?_;refine cD ?_ ?_<;>intro h<;>simp (disch:=omega) only [Sh.out h,go_sem,seval,↓reduceIte]
  ·have hk2:k<l.length:=Za
   refine Xd (Zd ?_);exact ⟨k+1,Za,Za,wk⟩
theorem Im (l:List (Int×Int)) (c d:Bool) (hl:l.length<=1048576):PC 36 [.p (.list c (l.map eP)),.p (.list d (l.map eP))] (.bool true):=by
 refine Zc Tryz.func36 rfl Zjl ?_;simp (disch:=omega) only [Tryz.f36,go_sem,seval];refine Zl [0,1] (fun k:Nat=> [(5,.p (.int .i64 k))]) (fun _=> []) (fun k=>k<=l.length) (fun k=>l.length-k) 0 Zb (Weak.mk ?_) ?_
 ·simp (disch:=omega) only [go_sem,seval,↓reduceIte]
 ·intro k hk;refine Zd ?_;refine cD ?_ ?_<;>intro h<;>simp (disch:=omega) only [Sh.out h,go_sem,seval,↓reduceIte]
  ·have hk2:k<l.length:=Za
   refine Xd (Zd ?_);exact ⟨k+1,Za,Za,wk⟩
theorem dJ (l:List Int) (c d:Bool) (hl:l.length<=1048576):PC 69 [.p (.list c (l.map eI)),.p (.list d (l.map eI))] (.bool true):=by
 refine Zc Tryz.func69 rfl ZjO ?_;simp (disch:=omega) only [Tryz.f69,go_sem,seval];refine Zl [0,1] (fun k:Nat=> [(5,.p (.int .i64 k))]) (fun _=> []) (fun k=>k<=l.length) (fun k=>l.length-k) 0 Zb (Weak.mk ?_) ?_
 ·simp (disch:=omega) only [go_sem,seval,↓reduceIte]
 ·intro k hk;refine Zd ?_;refine cD ?_ ?_<;>intro h<;>simp (disch:=omega) only [Sh.out h,go_sem,seval,↓reduceIte]
  ·have hk2:k<l.length:=Za
   refine Xd (Zd ?_);exact ⟨k+1,Za,Za,wk⟩
theorem oF (t:Typ) (c d:Bool) (hl:t.cap.length<=1048576):PC 34 [.p (X4 { t with cap_c:=c }),.p (X4 { t with cap_c:=d })] (.bool true):=by
 refine Zc Tryz.func34 rfl Zjj ?_;simp (disch:=omega) only [Tryz.f34,go_sem,seval];refine Z0 [8] [2,3] (fun k:Nat=> [(5,.p (.int .i64 k))]) (fun _=> [X9 { t with cap_c:=c },X9 { t with cap_c:=d }]) (fun k=>k<=t.cap.length) (fun k=>t.cap.length-k) 0 Zb (Weak.mk ?_) ?_
 ·simp (disch:=omega) only [X9,go_sem,seval]
 ·intro k hk;simp (disch:=omega) only [X9,go_sem,seval];refine cD ?_ ?_<;>intro h<;>simp (maxSteps:=3000000) (disch:=omega) only [Sh.out h,go_sem,seval,↓reduceIte]
  ·have hk2:k<t.cap.length:=Za
   refine Xd (Zd ?_);exact ⟨k+1,Za,Za,wk⟩
theorem oG (o:Ord) (hl:o.load.length<=1048576):PC 35 [.p (Yj o),.p (Yj o)] (.bool true):=by
 refine Zc Tryz.func35 rfl Zjk ?_;simp (maxSteps:=3000000) (disch:=omega) only [Tryz.f35,go_sem,seval,↓reduceIte];refine (dJ o.load o.load_c o.load_c hl).use ?_;simp (maxSteps:=3000000) (disch:=omega) only [go_sem,seval,↓reduceIte]
theorem lW (n:Net) (hw:n.wf 1048576):PC 33 [.p (Bg n),.p (Bg n)] (.bool true):=by
 have hp:=hw.1;have ha:=hw.2.2.1;have haw:=hw.2.2.2;refine Zc Tryz.func33 rfl Zji ?_;simp (disch:=omega) only [Tryz.f33,go_sem,seval];refine Zl [2,3] (fun k:Nat=> [(5,.p (.int .i64 k))]) (fun _=>Z4 n++Z4 n) (fun k=>k<=n.places.length) (fun k=>n.places.length-k) 0 Zb (Weak.mk ?_) ?_
 ·simp (disch:=omega) only [Z4,ZP,ZC,go_sem,seval]
 ·intro k hk;simp (disch:=omega) only [Z4,ZP,ZC,go_sem,seval];refine cD ?_ ?_<;>intro h<;>simp (disch:=omega) only [Sh.out h,go_sem,seval,↓reduceIte]
  ·have hk2:k<n.places.length:=Za
   refine Xd (Zd ?_);exact ⟨k+1,Za,Za,wk⟩
  ·have hkl:k=n.places.length:=Za
   subst hkl;clear hk h;refine Zl [2,3] (fun k:Nat=> [(6,.p (.int .i64 k))]) (fun _=>Z4 n++Z4 n) (fun k=>k<=n.arcs.length) (fun k=>n.arcs.length-k) 0 Zb (Weak.mk ?_) ?_
   ·simp (disch:=omega) only [Z4,ZP,ZC,go_sem,seval]
   ·intro k hk;simp (disch:=omega) only [Z4,ZP,ZC,go_sem,seval];refine cD ?_ ?_<;>intro h<;>simp (disch:=omega) only [Sh.out h,go_sem,seval,↓reduceIte]
    ·have hk2:k<n.arcs.length:=Za
     have hak:=haw _ (Zt hk2);have ht:(nth n.arcs k).travel.length<=1048576:=hak.2.2.2.2.1;have hs:(nth n.arcs k).slow.length<=1048576:=hak.2.2.2.2.2.2.1;refine (Gp (nth n.arcs k).travel (nth n.arcs k).travel_c (nth n.arcs k).travel_c ht).use (Zd ?_);refine (Gp (nth n.arcs k).slow (nth n.arcs k).slow_c (nth n.arcs k).slow_c hs).use (Zd ?_);exact ⟨k+1,Za,Za,wk⟩
theorem oH (n:Net) (ts us:List Typ) (os:List Ord) (ap be:List (Int×Int)) (c1 c2 c3 c4 d1 d2 d3 d4:Bool) (hn:n.wf 1048576) (htl:ts.length=us.length) (hts: ∀k,k<ts.length->(∃c,nth ts k= { nth us k with cap_c:=c })/\(nth us k).cap.length<=1048576)
  (hl:us.length<=1048576) (ho:os.length<=1048576) (how: ∀o∈os,o.load.length<=1048576) (ha:ap.length<=1048576) (hb:be.length<=1048576) :
  PC 12 [.p (Zu ⟨n,c1,ts,c2,os,c3,ap,c4,be⟩),.p (Zu ⟨n,d1,us,d2,os,d3,ap,d4,be⟩)] (.bool true):=by
 refine Zc Tryz.func12 rfl Zi5 ?_;simp (disch:=omega) only [Tryz.f12,go_sem,seval];refine (lW n hn).use (Zd ?_);simp (disch:=omega) only [htl,go_sem,seval];refine Zl [2,3] (fun k:Nat=> [(5,.p (.int .i64 k))]) (fun _=> [Ze ⟨n,c1,ts,c2,os,c3,ap,c4,be⟩,Ze ⟨n,d1,us,d2,os,d3,ap,d4,be⟩]) (fun k=>k<=ts.length) (fun k=>ts.length-k) 0 Zb (Weak.mk ?_) ?_
 ·simp (disch:=omega) only [Ze,go_sem,seval]
 ·intro k hk;refine YJ ?_;refine cD ?_ ?_<;>intro h<;>simp (disch:=omega) only [Sh.out h,go_sem,seval,↓reduceIte]
  ·have hk2:k<ts.length:=Za
   obtain ⟨⟨c,e⟩,hcl⟩:=hts k hk2;have c10:=oF (nth us k) c (nth us k).cap_c hcl;rw [<- e] at c10;refine Xd (Zd ?_);refine Zo (c10) (Zd ?_);exact ⟨k+1,Za,Za,wk⟩
  ·refine Zl [2,3] (fun k:Nat=> [(6,.p (.int .i64 k))]) (fun _=> [Ze ⟨n,c1,ts,c2,os,c3,ap,c4,be⟩,Ze ⟨n,d1,us,d2,os,d3,ap,d4,be⟩]) (fun k=>k<=os.length) (fun k=>os.length-k) 0 Zb (Weak.mk ?_) ?_
   ·simp (disch:=omega) only [Ze,go_sem,seval]
   ·intro k hk;refine YJ ?_;refine cD ?_ ?_<;>intro h<;>simp (disch:=omega) only [Sh.out h,go_sem,seval,↓reduceIte]
    ·have hk2:k<os.length:=Za
     refine Xd (Zd ?_);refine Zo (oG (nth os k) (how _ (Zt hk2))) (Zd ?_);exact ⟨k+1,Za,Za,wk⟩
    ·refine (Im ap c3 d3 ha).use (Zd ?_);refine (Im be c4 d4 hb).use ?_;simp (disch:=omega) only [go_sem,seval,↓reduceIte]
def Ji (l:List Pt) (t:Int) (i:Nat):Bool:=decide ((nth l i).t<=t)&&decide (t<(nth l (i+1)).t)
def Ht (p q:Pt) (t:Int):Int:=p.a+((t-p.t)*(q.a-p.a)+q.t-p.t-1) / (q.t-p.t)
def JS (l:List Pt) (t:Int):Int:=match (List.range (l.length-1)).find? (Ji l t) with
 | some i=>Ht (nth l i) (nth l (i+1)) t
 | none=>if (nth l 0).t<t then t+(nth l (l.length-1)).a-(nth l (l.length-1)).t else t+(nth l 0).a-(nth l 0).t
theorem I5 {l:List Pt} {t:Int} {i:Nat} (hi:i+1<l.length) (hno: ∀j,j<i->Ji l t j=false) (h:Ji l t i=true):JS l t=Ht (nth l i) (nth l (i+1)) t:=by
 have:(List.range (l.length-1)).find? (Ji l t)=some i:=by
  grind [EO]
 rw [JS,this]
theorem EH {l:List Pt} {t:Int} (hno: ∀j,j+1<l.length->Ji l t j=false):JS l t=if (nth l 0).t<t then t+(nth l (l.length-1)).a-(nth l (l.length-1)).t else t+(nth l 0).a-(nth l 0).t:=by
 grind [JS]
theorem GL {p q:Pt} {t:Int} (h1:p.t<=t) (h2:t<q.t) (hp:0<=p.t) (hq:q.t<=4096) (ha:p.a<=q.a) (hpa:0<=p.a) (hqa:q.a<=8192):0<=(t-p.t)*(q.a-p.a)/\(t-p.t)*(q.a-p.a)<=33554432:=by
 refine ⟨UL Za Za,?_⟩;have:(t-p.t)*(q.a-p.a)<=4096*8192:=VO Za Za Za Za;omega
theorem Pc (l:List Pt) (c:Bool) (t:Int) (hl:Vg l) (ht:0<=t/\t<=1073741824):PC 297 [.p (.list c (l.map G4)),.p (.int .i64 t)] (.int .i64 (JS l t)):=by
 obtain ⟨⟨hl1,hl2⟩,hpt⟩:=hl;refine Zc Tryz.func297 rfl Zdr ?_;simp (disch:=omega) only [Tryz.f297,go_sem,seval];refine ((iF l c Za).frozenE).useV fun m hm=>Zd ?_
 have hm0:m.length=0:=by rw [hm.emp.2 ⟨⟨hl1,hl2⟩,hpt⟩];rfl
 have e1: ¬t<0:=Za
 have e2: ¬ 1073741824<t:=Za
 simp (disch:=omega) only [hm0,e1,e2,go_sem,seval];refine Zl [0,1] (fun k:Nat=> [(5,.p (.int .i64 k))]) (fun _=> []) (fun k=>k<l.length/\ ∀j,j<k->Ji l t j=false) (fun k=>l.length-k) 0 (by simp;omega) (Weak.mk ?_) ?_
 ·simp (disch:=omega) only [go_sem,seval,↓reduceIte]
 ·rintro k ⟨hk,hno⟩;refine Zd ?_;refine cD ?_ ?_<;>intro h<;>simp (disch:=omega) only [Sh.out h,go_sem,seval,↓reduceIte]
  ·have hk2:k+1<l.length:=Za
   obtain ⟨⟨p1,p2,p3,p4⟩,_⟩:=hpt k hk;obtain ⟨⟨q1,q2,q3,q4⟩,q5⟩:=hpt (k+1) hk2;obtain ⟨r1,r2⟩:=q5 Za;rw [Nat.add_sub_cancel] at r1 r2;refine gT ?_ ?_<;>intro h2<;>simp (disch:=omega) only [Sh.out h2,go_sem,seval,↓reduceIte]
   ·refine cD ?_ ?_<;>intro h3<;>simp (disch:=omega) only [Sh.out h3,go_sem,seval,↓reduceIte]
    ·have hsg:Ji l t k=true:=by simp [Ji,h2,h3]
     rw [I5 hk2 hno hsg];obtain ⟨s1,s2⟩:=GL h2 h3 p1 q2 r2 Za Za;have d1:0<=((t-(nth l k).t)*((nth l (k+1)).a-(nth l k).a)+(nth l (k+1)).t-(nth l k).t-1) / ((nth l (k+1)).t-(nth l k).t):=Int.ediv_nonneg Za Za;have d2:((t-(nth l k).t)*((nth l (k+1)).a-(nth l k).a)+(nth l (k+1)).t-(nth l k).t-1) / ((nth l (k+1)).t-(nth l k).t)<=33558528:=AP (Int.ediv_le_self _ Za) Za
     have d3: ¬(nth l (k+1)).t-(nth l k).t=0:=Za
     simp only [Ht];refine Xd ?_;simp (disch:=omega) only [go_sem,seval,↓reduceIte]
    ·have hsg:Ji l t k=false:=by simp [Ji,h3]
     exact ⟨k+1,⟨Za,Zr.2 ⟨hno,hsg⟩⟩,Za,wk⟩
   ·have hsg:Ji l t k=false:=by simp [Ji,h2]
    exact ⟨k+1,⟨Za,Zr.2 ⟨hno,hsg⟩⟩,Za,wk⟩
  ·have hkl:k+1=l.length:=Za
   rw [EH (fun j hj=>hno j Za)];obtain ⟨⟨p1,p2,p3,p4⟩,_⟩:=hpt 0 Za;obtain ⟨⟨q1,q2,q3,q4⟩,_⟩:=hpt (l.length-1) Za
   have i1:((l.length:Int)-1).toNat=l.length-1:=Za
   refine cD ?_ ?_<;>intro h2<;>simp (disch:=omega) only [Sh.out h2,go_sem,seval,↓reduceIte]
theorem Z2 {α:Type} [Inhabited α] {l:List α} {i:Nat} (h:i<l.length):nth l i∈l:=by grind [Zi]
def qT (a:Arc):Prop:=Vg a.travel/\a.slow.length<=16/\ ∀p∈a.slow,0<=p.t/\p.t<=4096/\0<=p.a/\p.a<=4096
def Ky (l:List Pt) (t:Int) (k:Nat):Int:=(l.take k).foldl (fun s p=>if p.t<=t then s+p.a else s) 0
def I4 (a:Arc) (t:Int):Int:=JS a.travel t+Ky a.slow t a.slow.length
theorem BT {l:List Pt} {t:Int} {k:Nat} (h:k<l.length):Ky l t (k+1)=if (nth l k).t<=t then Ky l t k+(nth l k).a else Ky l t k:=by
 grind [Ky,Ya,Zi]
theorem JH {l:List Pt} {t:Int} (hl: ∀p∈l,0<=p.a/\p.a<=4096): ∀k,k<=l.length->0<=Ky l t k/\Ky l t k<=4096*k
 | 0,_=>by simp [Ky]
 | k+1,h=>by
  have ih:=JH (t:=t) hl k Za
  grind [Z2,BT]
theorem Ft {l:List Pt} {t:Int} (hl:Vg l) (ht:0<=t/\t<=1073741824):0<=JS l t/\JS l t<=1107304448:=by
 obtain ⟨⟨hl1,hl2⟩,hpt⟩:=hl;unfold JS
 split
 ·rename_i i hi;have hm:=Ja hi;have hs:=J9 hi;simp at hm;simp only [Ji,Zw,Zq] at hs;obtain ⟨⟨p1,p2,p3,p4⟩,_⟩:=hpt i Za;obtain ⟨⟨q1,q2,q3,q4⟩,q5⟩:=hpt (i+1) Za;obtain ⟨r1,r2⟩:=q5 Za;rw [Nat.add_sub_cancel] at r1 r2;obtain ⟨s1,s2⟩:=GL hs.1 hs.2 p1 q2 r2 Za Za;have d1:0<=((t-(nth l i).t)*((nth l (i+1)).a-(nth l i).a)+(nth l (i+1)).t-(nth l i).t-1) / ((nth l (i+1)).t-(nth l i).t):=Int.ediv_nonneg Za Za;have d2:((t-(nth l i).t)*((nth l (i+1)).a-(nth l i).a)+(nth l (i+1)).t-(nth l i).t-1) / ((nth l (i+1)).t-(nth l i).t)<=33558528:=AP (Int.ediv_le_self _ Za) Za
  unfold Ht;omega
 ·obtain ⟨⟨p1,p2,p3,p4⟩,_⟩:=hpt 0 Za;obtain ⟨⟨q1,q2,q3,q4⟩,_⟩:=hpt (l.length-1) Za;omega
theorem Pd (a:Arc) (t:Int) (ha:qT a) (ht:0<=t/\t<=1073741824):PC 295 [.p (V2 a),.p (.int .i64 t)] (.int .i64 (I4 a t)):=by
 obtain ⟨h1,h2,h3⟩:=ha;have hr:=Ft h1 ht;have hs:=JH (t:=t) (fun p hp=>(h3 p hp).2.2);refine Zc Tryz.func295 rfl Zdp ?_;simp (disch:=omega) only [Tryz.f295,go_sem,seval];refine (Pc a.travel a.travel_c t h1 ht).use (Zd ?_);refine Zl [1,2] (fun k:Nat=> [(5,.p (.int .i64 (JS a.travel t+Ky a.slow t k))),(6,.p (.int .i64 k))]) (fun _=> [Vk a]) (fun k=>k<=a.slow.length) (fun k=>a.slow.length-k) 0 Zb (Weak.mk ?_) ?_
 ·simp (disch:=omega) only [Vk,Ky,UM,go_sem,seval];simp
 ·intro k hk;have hsk:=hs k hk;simp (disch:=omega) only [Vk,go_sem,seval];refine cD ?_ ?_<;>intro h<;>simp (disch:=omega) only [Sh.out h,go_sem,seval,↓reduceIte]
  ·have hk2:k<a.slow.length:=Za
   have hp:=h3 _ (Z2 hk2);have hsn:=BT (t:=t) hk2;refine Z1 ?_ ?_<;>intro h4
   ·rw [if_pos h4] at hsn;exact ⟨k+1,Za,Za,Weak.mk (by simp (disch:=omega) only [hsn,Int.add_assoc,go_sem,seval])⟩
   ·rw [if_neg h4] at hsn;exact ⟨k+1,Za,Za,Weak.mk (by simp (disch:=omega) only [hsn,go_sem,seval])⟩
  grind [I4]
theorem ON {g:FuncId} {args:List V} {a b c:PV} {H:List AM.Obj} {K:V->List AM.Obj->Prop} (h:ACalls Tryz.prog g args [] fun x H'=>x= .tup [.p a,.p b,.p c]/\H'= []) (k:K (.tup [.p a,.p b,.p c]) H) (ha:Xs 0 args=true:=by rfl):ACalls Tryz.prog g args H K :=
 (h.behind ha H).mono fun x H' hq=>by
  obtain ⟨y,H1,⟨rfl,rfl⟩,rfl,rfl⟩:=hq
  grind [shV,shVs]
theorem Yo {g:FuncId} {args:List V} {a b:PV} {H:List AM.Obj} {K:V->List AM.Obj->Prop} (h:ACalls Tryz.prog g args [] fun x H'=>x= .tup [.p a,.p b]/\H'= []) (k:K (.tup [.p a,.p b]) H) (ha:Xs 0 args=true:=by rfl):ACalls Tryz.prog g args H K :=
 (h.behind ha H).mono fun x H' hq=>by
  obtain ⟨y,H1,⟨rfl,rfl⟩,rfl,rfl⟩:=hq
  grind [shV,shVs]
def K5 (n:Net) (p:Int):Bool:=decide (0<=p)&&decide (p<(n.places.length:Int))
theorem Ip (n:Net) (p:Int) (hn:n.places.length<=1048576):PC 293 [.p (Bg n),.p (.int .i64 p)] (.bool (K5 n p)):=by
 refine Zc Tryz.func293 rfl Zdn ?_;simp (disch:=omega) only [Tryz.f293,go_sem,seval];refine gT ?_ ?_<;>intro h<;>simp (disch:=omega) only [Sh.out h,go_sem,seval,↓reduceIte]
 ·simp [K5,h]
 ·simp [K5,h]
def VG (pr f t:Int) (a:Arc):Bool:=decide (a.src=f)&&decide (a.dst=t)&&decide (a.prof=pr)
def Uj : Arc:=⟨0,0,0,0,true,[],true,[]⟩
def W7 (n:Net) (pr f t:Int):Arc×Bool:=match n.arcs.find? (VG pr f t) with | some a=>(a,true) | none=>(Uj,false)
theorem Ni {n:Net} {pr f t:Int} {k:Nat} (hk:k<n.arcs.length) (hno: ∀j,j<k->VG pr f t (nth n.arcs j)=false) (h:VG pr f t (nth n.arcs k)=true):W7 n pr f t=(nth n.arcs k,true):=by
 have:n.arcs.find? (VG pr f t)=some (nth n.arcs k):=by
  grind [EO,Zi]
 rw [W7,this]
theorem Nj {n:Net} {pr f t:Int} (hno: ∀j,j<n.arcs.length->VG pr f t (nth n.arcs j)=false):W7 n pr f t=(Uj,false):=by
 have:n.arcs.find? (VG pr f t)=none:=by
  rw [J5];intro a ha;obtain ⟨j,hj,rfl⟩:=ZS.1 ha
  grind [Zi]
 rw [W7,this]
theorem jE (n:Net) (pr f t:Int) (hn:n.arcs.length<=1048576):PT 294 [.p (Bg n),.p (.int .i64 pr),.p (.int .i64 f),.p (.int .i64 t)] [.p (V2 (W7 n pr f t).1),.p (.bool (W7 n pr f t).2)]:=by
 refine Zg [] Tryz.func294 rfl Zdo ?_;simp (disch:=omega) only [Tryz.f294,go_sem,seval];refine Zl [1,2,3,4,8] (fun k:Nat=> [(10,.p (.int .i64 k))]) (fun _=>Z4 n++ [Vk Uj]) (fun k=>k<=n.arcs.length/\ ∀j,j<k->VG pr f t (nth n.arcs j)=false) (fun k=>n.arcs.length-k) 0 Zb (Weak.mk ?_) ?_
 ·simp (disch:=omega) only [Z4,Vk,Uj,Zk,ZP,ZC,go_sem,seval]
 ·rintro k ⟨hk,hno⟩;simp (disch:=omega) only [Z4,Vk,Uj,Zk,ZP,ZC,go_sem,seval];refine cD ?_ ?_<;>intro h<;>simp (disch:=omega) only [Sh.out h,go_sem,seval,↓reduceIte]
  ·have hk2:k<n.arcs.length:=Za
   have nx:VG pr f t (nth n.arcs k)=false-> ∀j,j<k+1->VG pr f t (nth n.arcs j)=false:=fun h=>Zr.2 ⟨hno,h⟩;refine Jr ?_ ?_<;>intro h1
   ·refine Jr ?_ ?_<;>intro h2
    ·refine Z1 ?_ ?_<;>intro h3
     ·have e:=Ni hk2 hno (by grind [VG]);rw [e];exact we
     ·exact ⟨k+1,⟨Za,nx (by simp [VG,h3])⟩,Za,wk⟩
    ·exact ⟨k+1,⟨Za,nx (by simp [VG,h2])⟩,Za,wk⟩
   ·exact ⟨k+1,⟨Za,nx (by simp [VG,h1])⟩,Za,wk⟩
  ·have hkn:k=n.arcs.length:=Za
   subst hkn;rw [Nj hno];exact we (by simp (disch:=omega) only [Uj,Zk,go_sem,seval])
def W8 (n:Net) (pr f t τ:Int):Int×Int×Int :=
 if (K5 n f&&K5 n t)=false then (0,0,11) else if f=t then (τ,0,0) else if (W7 n pr f t).2=true then (I4 (W7 n pr f t).1 τ,(W7 n pr f t).1.miles,0) else (0,0,12)
def netR (n:Net):Prop:=n.places.length<=1048576/\n.arcs.length<=1048576/\ ∀a∈n.arcs,qT a
theorem Ar {n:Net} {pr f t:Int} (h:(W7 n pr f t).2=true):(W7 n pr f t).1∈n.arcs:=by
 grind [W7]
theorem ZaP (n:Net) (pr f t τ:Int) (hn:netR n) (hτ:0<=τ/\τ<=1073741824):PT 291 [.p (Bg n),.p (.int .i64 pr),.p (.int .i64 f),.p (.int .i64 t),.p (.int .i64 τ)] [.p (.int .i64 (W8 n pr f t τ).1),.p (.int .i64 (W8 n pr f t τ).2.1),.p (.int .i64 (W8 n pr f t τ).2.2)]:=by
 refine Zg [] Tryz.func291 rfl Zdl ?_;simp (disch:=omega) only [Tryz.f291,go_sem,seval];refine (Ip n f hn.1).use (Zd ?_);refine gF ?_ ?_<;>intro h1<;>simp (disch:=omega) only [Sh.out h1,go_sem,seval,↓reduceIte]
 ·have e:W8 n pr f t τ=(0,0,11):=by grind [W8]
  rw [e];exact we
 ·simp only [XR] at h1;refine (Ip n t hn.1).use (Zd ?_);refine cD ?_ ?_<;>intro h2<;>simp (disch:=omega) only [Sh.out h2,go_sem,seval]
  ·have e:W8 n pr f t τ=(0,0,11):=by grind [W8]
   rw [e];exact we
  ·simp only [XR] at h2;refine cD ?_ ?_<;>intro h3<;>simp (disch:=omega) only [Sh.out h3,go_sem,seval,↓reduceIte]
   ·have e:W8 n pr f t τ=(τ,0,0):=by grind [W8]
    rw [e];exact we
   ·have cf:=jE n pr f t hn.2.1;have hm:= @Ar n pr f t
    have e0:W8 n pr f t τ=if (W7 n pr f t).2=true then (I4 (W7 n pr f t).1 τ,(W7 n pr f t).1.miles,0) else (0,0,12):=by grind [W8]
    rw [e0];generalize W7 n pr f t=A at cf hm ⊢;obtain ⟨a,b⟩:=A;simp only at cf hm ⊢;refine Yo cf (Zd ?_);refine cD ?_ ?_<;>intro h4<;>simp (disch:=omega) only [Sh.out h4,go_sem,seval]
    ·have hb:b=false:=by grind
     subst hb;exact we (by simp (disch:=omega) only [go_sem,seval,↓reduceIte])
    ·have hb:b=true:=by grind
     subst hb;refine Xd (Zd ?_);refine Zo (Pd a τ (hn.2.2 a (hm rfl)) hτ) (Zd ?_);exact we
theorem wT (x:Inst) (pr f t τ:Int) (hn:netR x.net) (hτ:0<=τ/\τ<=1073741824):PT 289 [.p (Zu x),.p (.int .i64 pr),.p (.int .i64 f),.p (.int .i64 t),.p (.int .i64 τ)] [.p (.int .i64 (W8 x.net pr f t τ).1),.p (.int .i64 (W8 x.net pr f t τ).2.1),.p (.bool (decide ((W8 x.net pr f t τ).2.2=0)))]:=by
 refine Zg [] Tryz.func289 rfl Zdj ?_;simp (disch:=omega) only [Tryz.f289,go_sem,seval];refine ON (ZaP x.net pr f t τ hn hτ) (Zd ?_);exact we
structure StD where
 place:Int
 time:Int
 driven:Int
 miles:Int
def iW (s:StD):PV:= .agg [.int .i64 s.place,.int .i64 s.time,.int .i64 s.driven,.int .i64 s.miles]
@[go_sem] theorem Zmq (s:StD):iW s= .agg [.int .i64 s.place,.int .i64 s.time,.int .i64 s.driven,.int .i64 s.miles]:=Zm rfl rfl
def GA (t:Typ) (s:StD) (b:Bool):StD:=if b=true then { s with time:=s.time+t.rest,driven:=0 } else s
theorem N9 (t:Typ) (s:StD) (b:Bool) (hb: -1099511627776<=s.time/\s.time<=1099511627776/\ -1099511627776<=t.rest/\t.rest<=1099511627776):PC 277 [.p (X4 t),.p (iW s),.p (.bool b)] (iW (GA t s b)):=by
 refine Zc Tryz.func277 rfl Zc7 ?_
 cases b with
 | true=>simp (disch:=omega) only [Tryz.f277,GA,go_sem,seval,↓reduceIte]
 | false=>simp (disch:=omega) only [Tryz.f277,GA,Y6,go_sem,seval,↓reduceIte]
def JJ (x:Inst) (t:Typ) (s:StD) (to cl late:Int):StD×Int :=
 if ¬(W8 x.net t.prof s.place to s.time).2.2=0 then (s,12)
 else if cl<(W8 x.net t.prof s.place to s.time).1 then (s,late)
 else if t.drive<s.driven+(W8 x.net t.prof s.place to s.time).1-s.time then (s,16)
 else (⟨to,(W8 x.net t.prof s.place to s.time).1,s.driven+(W8 x.net t.prof s.place to s.time).1-s.time,s.miles+(W8 x.net t.prof s.place to s.time).2.1⟩,0)
def fC (n:Int):Prop:= -1099511627776<=n/\n<=1099511627776
theorem OD (x:Inst) (t:Typ) (s:StD) (to cl late:Int) (hn:netR x.net) (hs:0<=s.time/\s.time<=1073741824) (hd:fC s.driven) (hm:fC s.miles) (hg:fC (W8 x.net t.prof s.place to s.time).1/\fC (W8 x.net t.prof s.place to s.time).2.1) :
  PT 278 [.p (Zu x),.p (X4 t),.p (iW s),.p (.int .i64 to),.p (.int .i64 cl),.p (.int .i64 late)] [.p (iW (JJ x t s to cl late).1),.p (.int .i64 (JJ x t s to cl late).2)]:=by
 have cw:=wT x t.prof s.place to s.time hn hs;unfold JJ;generalize W8 x.net t.prof s.place to s.time=g at cw hg ⊢;obtain ⟨a,m,e⟩:=g;unfold fC at hd hm hg;simp only at cw hg ⊢;refine Zg [] Tryz.func278 rfl Zc8 ?_;simp (disch:=omega) only [Tryz.f278,go_sem,seval];refine ON cw (Zd ?_);refine cD ?_ ?_<;>intro h1<;>simp (disch:=omega) only [Sh.out h1,go_sem,seval,↓reduceIte]
 ·exact we
 ·rw [if_neg h1];refine cD ?_ ?_<;>intro h2<;>simp (disch:=omega) only [Sh.out h2,go_sem,seval,↓reduceIte]
  ·exact we
  ·rw [if_neg h2];refine cD ?_ ?_<;>intro h3<;>simp (disch:=omega) only [Sh.out h3,go_sem,seval,↓reduceIte]
   ·exact we
   ·exact we
structure Lab where
 ready:Int
 since:Int
 she:She
 deriving Inhabited
def zShe : She:=⟨false,0,true,[],0,0⟩
def W6 : Lab:=⟨0,0,zShe⟩
def ZO (t:Typ) (L:Lab) (b:Bool):Int:=if b=true then L.ready+t.rest else L.ready
def W4 (L:Lab) (b:Bool):Int:=if b=true then 0 else L.since
def SN (l:List Tim) (k:Nat) (d:Int) (b:Bool):List Tim:=l.set k { nth l k with dep:=d,rest:=b }
def X5 (k:Nat) (d:Int) (b:Bool) (s:She):She:=if k=0 then { s with rest:=b,dep:=d } else { s with times:=SN s.times (k-1) d b }
def Ue (t:Typ) (sp:List Stp) (k:Nat):Int:=if k=0 then t.src else (nth sp (k-1)).place
def OY (t:Typ) (sp:List Stp) (k:Nat):Int:=if k=sp.length then t.dst else (nth sp k).place
def Wb (x:Inst) (t:Typ) (sp:List Stp) (k:Nat) (d:Int):Int×Int×Int:=W8 x.net t.prof (Ue t sp k) (OY t sp k) d
def WL (t:Typ) (sp:List Stp) (k:Nat) (g:Int×Int×Int) (d s:Int) (h:She):Lab×Int :=
 if ¬g.2.2=0 then (W6,12)
 else if k=sp.length then
  if t.cls<g.1 then (W6,15) else if t.drive<s+g.1-d then (W6,16)
  else (⟨g.1,s+g.1-d,{ h with fin:=g.1,miles:=h.miles+g.2.1 }⟩,0)
 else if (nth sp k).cls<max g.1 (nth sp k).opn then (W6,14)
 else if t.drive<s+g.1-d then (W6,16)
 else (⟨max g.1 (nth sp k).opn+(nth sp k).serv,s+g.1-d,{ h with times_c:=false,times:=h.times++ [⟨g.1,max g.1 (nth sp k).opn,0,false⟩],miles:=h.miles+g.2.1 }⟩,0)
def nxtF (x:Inst) (t:Typ) (sp:List Stp) (k:Nat) (L:Lab) (b:Bool):Lab×Int :=
 WL t sp k (Wb x t sp k (ZO t L b)) (ZO t L b) (W4 L b) (X5 k (ZO t L b) b L.she)
def Xr (x:Inst) (t:Typ) (sp:List Stp) (k:Nat) (L:Lab) (b:Bool):Option Lab:=if (nxtF x t sp k L b).2=0 then some (nxtF x t sp k L b).1 else none
def Xb (x:Inst) (t:Typ) (sp:List Stp):Nat->Lab->List Bool->Lab×Int
 | _,L,[]=>(L,0)
 | k,L,b::bs=>if (nxtF x t sp k L b).2=0 then Xb x t sp (k+1) (nxtF x t sp k L b).1 bs else (W6,(nxtF x t sp k L b).2)
def labF (t:Typ) (st:Int):Lab:=⟨max t.opn st,0,zShe⟩
theorem YF {x:Inst} {t:Typ} {sp:List Stp} : ∀(bs:List Bool) (k:Nat) (L:Lab),We (Xr x t sp) k L bs=if (Xb x t sp k L bs).2=0 then some (Xb x t sp k L bs).1 else none
 | [],k,L=>by rfl
 | b::bs,k,L=>by
  rw [We,Xb,Xr]
  by_cases h:(nxtF x t sp k L b).2=0
  ·simp only [h,if_true];exact YF bs (k+1) _
  ·simp [h]
structure TrpOk (x:Inst) (t:Typ) (sp:List Stp):Prop where
 net:netR x.net
 mil: ∀a∈x.net.arcs,0<=a.miles/\a.miles<=10000
 opn:0<=t.opn/\t.opn<=t.cls/\t.cls<=4096
 drv:1<=t.drive/\t.drive<=4096
 rst:0<=t.rest/\t.rest<=4096
 stp: ∀s∈sp,0<=s.opn/\s.opn<=s.cls/\s.cls<=4096/\0<=s.serv/\s.serv<=4096
 len:sp.length<=20
structure LabR (k:Nat) (L:Lab):Prop where
 rdy:0<=L.ready/\L.ready<=8192
 snc: -(12288*(k:Int))<=L.since/\L.since<=4096
 mil:0<=L.she.miles/\L.she.miles<=10000*(k:Int)
theorem Ly {n:Net} {pr f t τ:Int} (hn:netR n) (hm: ∀a∈n.arcs,0<=a.miles/\a.miles<=10000) (hτ:0<=τ/\τ<=1073741824):(0<=(W8 n pr f t τ).1/\(W8 n pr f t τ).1<=1107369984)/\(0<=(W8 n pr f t τ).2.1/\(W8 n pr f t τ).2.1<=10000):=by
 unfold W8
 split
 ·simp
 ·split
  ·grind
  ·split
   ·rename_i h;have hA:=Ar h;have h1:=Ft (hn.2.2 _ hA).1 hτ;have h2:=JH (t:=τ) (fun p hp=>((hn.2.2 _ hA).2.2 p hp).2.2) _ (ZD _);have h3:=(hn.2.2 _ hA).2.1
    grind [I4]
   ·simp
theorem KK {x t sp k L} (h:TrpOk x t sp) (hl:LabR k L) (b:Bool):0<=ZO t L b/\ZO t L b<=12288:=by
 have:=h.rst;have:=hl.rdy
 grind [ZO]
theorem GQ {k L} (hl:LabR k L) (b:Bool): -(12288*(k:Int))<=W4 L b/\W4 L b<=4096:=by
 have:=hl.snc
 grind [W4]
theorem Lw {x t sp k L} (h:TrpOk x t sp) (hl:LabR k L) (b:Bool):(0<=(Wb x t sp k (ZO t L b)).1/\(Wb x t sp k (ZO t L b)).1<=1107369984)/\(0<=(Wb x t sp k (ZO t L b)).2.1/\(Wb x t sp k (ZO t L b)).2.1<=10000):=by
 have:=KK h hl b;exact Ly h.net h.mil Za
theorem KV {k d b s} :(X5 k d b s).miles=s.miles:=by grind [X5]
theorem Ie {k d b s} :(X5 k d b s).fin=s.fin:=by grind [X5]
theorem AS {k d b s} :(X5 k d b s).times.length=s.times.length:=by grind [X5,SN]
theorem LU {x t sp k L b} (h:TrpOk x t sp) (hk:k<=sp.length) (hl:LabR k L) (he:(nxtF x t sp k L b).2=0):LabR (k+1) (nxtF x t sp k L b).1:=by
 have h1:=KK h hl b;have h2:=GQ hl b;obtain ⟨h3,h4⟩:=Lw h hl b;have h5:=hl.mil;have h6:=h.opn;have h7:=h.drv;have hm:(X5 k (ZO t L b) b L.she).miles=L.she.miles:=KV;unfold nxtF at he ⊢
 generalize Wb x t sp k (ZO t L b)=g at *
 generalize ZO t L b=d at *
 generalize W4 L b=s at *
 generalize X5 k d b L.she=m at *
 unfold WL at he ⊢
 split at he
 ·simp at he
 ·rename_i c1;rw [if_neg c1]
  split at he
  ·rename_i c2;rw [if_pos c2]
   split at he
   ·simp at he
   ·rename_i c3;rw [if_neg c3]
    split at he
    ·simp at he
    ·rename_i c4;rw [if_neg c4];exact ⟨by grind,by grind,by grind⟩
  ·rename_i c2;rw [if_neg c2];have h8:=h.stp _ (Z2 (show k<sp.length by omega))
   split at he
   ·simp at he
   ·rename_i c3;rw [if_neg c3]
    split at he
    ·simp at he
    ·rename_i c4;rw [if_neg c4];exact ⟨by grind,by grind,by grind⟩
theorem Ge {x t sp k L b} (hl:L.she.times.length=k) (he:(nxtF x t sp k L b).2=0) (hk:k<sp.length):(nxtF x t sp k L b).1.she.times.length=k+1:=by
 have hm:(X5 k (ZO t L b) b L.she).times.length=L.she.times.length:=AS;unfold nxtF at he ⊢
 generalize Wb x t sp k (ZO t L b)=g at *
 generalize ZO t L b=d at *
 generalize W4 L b=s at *
 generalize X5 k d b L.she=m at *
 have hk2: ¬k=sp.length:=Za
 unfold WL at he ⊢
 grind
def Xj (m x:Lab):Bool:=decide (m.ready=x.ready)&&decide (m.since<=x.since)
theorem Ph {x t sp k} {m y z:Lab} {b:Bool} (hb:Xj m y=true) (hn:Xr x t sp k y b=some z): ∃u,Xr x t sp k m b=some u/\Xj u z=true:=by
 simp only [Xj,Zw,Zq] at hb;obtain ⟨hb1,hb2⟩:=hb
 have hd:ZO t m b=ZO t y b:=by simp [ZO,hb1]
 have hs:W4 m b<=W4 y b:=by grind [W4]
 unfold Xr at hn ⊢;unfold nxtF at hn ⊢;rw [hd]
 generalize Wb x t sp k (ZO t y b)=g at *
 generalize ZO t y b=d at *
 generalize W4 y b=s at *
 generalize W4 m b=s2 at *
 generalize X5 k d b y.she=h1 at *
 generalize X5 k d b m.she=h2 at *
 unfold WL at hn ⊢
 by_cases c1:g.2.2=0
 ·by_cases c2:k=sp.length
  ·simp only [c1,c2,not_true,if_true,Ye] at hn ⊢
   by_cases c3:t.cls<g.1
   ·grind
   ·by_cases c4:t.drive<s+g.1-d
    ·grind
    ·have c5: ¬t.drive<s2+g.1-d:=Za
     simp only [c3,c4,Ye,if_true,Qn] at hn;subst hn;refine ⟨_,by simp only [c3,c5,Ye,if_true];rfl,?_⟩;simp [Xj];omega
  ·simp only [c1,c2,not_true,Ye] at hn ⊢
   by_cases c3:(nth sp k).cls<max g.1 (nth sp k).opn
   ·grind
   ·by_cases c4:t.drive<s+g.1-d
    ·grind
    ·have c5: ¬t.drive<s2+g.1-d:=Za
     simp only [c3,c4,Ye,if_true,Qn] at hn;subst hn;refine ⟨_,by simp only [c3,c5,Ye,if_true];rfl,?_⟩;simp [Xj];omega
 grind
def Wo (L:Lab):Int:=L.she.fin
theorem NS {x t sp} {y z:Lab} {b:Bool} (hn:Xr x t sp sp.length y b=some z):z.she.fin=z.ready:=by
 unfold Xr nxtF WL at hn
 grind
theorem H7 {x t sp} (ch:Nat->List Bool) (L:Lab):W9 Wo none (Ku Xj (Xr x t sp) ch (sp.length+1) 0 [L])=W9 Wo none (VT (Xr x t sp) ch (sp.length+1) 0 L):=by
 have h:=SF Wo Xj (Xr x t sp) ch (n:=sp.length+1) (Inv:=fun k y=>k=sp.length+1->y.she.fin=y.ready)
  (fun k y b z _ hn hk=>by
   grind [NS]) (fun k m y b z _ _ hb hn=>Ph hb hn)
  (fun m y h1 h2 hb=>by
   simp only [Xj,Zw,Zq] at hb
   rw [Wo,Wo,h1 rfl,h2 rfl];omega) (sp.length+1) 0 [L] Za (fun y _ hk=>Za)
 rw [h];simp
def UR (r:List Bool) (k:Nat):List Bool:=match r[k]? with | some b=> [b] | none=> [false,true]
theorem Sn (r:List Bool) (n:Nat) (hn:r.length<=n): ∀(j k:Nat),k+j=r.length->Lr (UR r) (n-k) k=(Y4 (List.replicate (n-r.length) false)).map (r.drop k++ ·)
 | 0,k,h=>by
  have hk:k=r.length:=Za
  subst hk;rw [Nf (n:=n) _ _ _ (fun q hq=>by grind [UR])];simp
 | j+1,k,h=>by
  have e:n-k=(n-(k+1))+1:=Za
  have hlt:k<r.length:=Za
  rw [e,Lr,Sn r n hn j (k+1) Za]
  have:UR r k= [r[k]]:=by simp [UR,hlt]
  rw [this,UH,List.flatMap_nil,Yr,List.map_map,Ub hlt]
  rfl
theorem HL (r:List Bool) (n:Nat) (hn:r.length<=n):Lr (UR r) n 0=(Y4 (List.replicate (n-r.length) false)).map (r++ ·):=by
 have:=Sn r n hn r.length 0 Za
 grind
def XD (r:List Bool) (n:Nat):List (List Bool):=(Y4 (List.replicate (n-r.length) false)).map (r++ ·)
def YY (r:List Bool) (n:Nat):List Bool:=r++List.replicate (n-r.length) false
def Yi (x:Inst) (t:Typ) (sp:List Stp) (st:Int) (r:List Bool):She×Int :=
 match W9 Wo none ((XD r (sp.length+1)).filterMap (We (Xr x t sp) 0 (labF t st))) with
 | some L=>(L.she,0)
 | none=>(zShe,(Xb x t sp 0 (labF t st) (YY r (sp.length+1))).2)
theorem I9 {x t sp} {st:Int} {r:List Bool} (hr:r.length<=sp.length+1):Yi x t sp st r=match W9 Wo none (Ku Xj (Xr x t sp) (UR r) (sp.length+1) 0 [labF t st]) with
 | some L=>(L.she,0)
 | none=>(zShe,(Xb x t sp 0 (labF t st) (YY r (sp.length+1))).2):=by
 rw [H7,VT,HL r _ hr];rfl
theorem Og {x t sp} : ∀(bs:List Bool) (k:Nat) (L:Lab),L.she.times.length=k->k+bs.length=sp.length+1->0<bs.length->(Xb x t sp k L bs).2=0->(Xb x t sp k L bs).1.she.times.length=sp.length
 | [],k,L,h1,h2,h3,h=>by simp at h3
 | b::bs,k,L,h1,h2,_,h=>by
  rw [Xb] at h ⊢
  by_cases h4:(nxtF x t sp k L b).2=0
  ·simp only [h4,if_true] at h ⊢
   cases bs with
   | nil =>
    simp at h2;subst h2;rw [Xb];unfold nxtF at h4 ⊢;unfold WL at h4 ⊢
    split at h4
    ·simp at h4
    ·rename_i c1;rw [if_neg c1];simp only [if_true] at h4 ⊢
     split at h4
     ·simp at h4
     ·rename_i c2;rw [if_neg c2]
      split at h4
      ·simp at h4
      simp_all [if_neg,AS]
   | cons b2 bs =>
    simp at h2;exact Og (b2::bs) (k+1) _ (Ge h1 h4 Za) (by simp;omega) Zb h
  grind
theorem bestF_len {x t sp} {st:Int} {r:List Bool} (hr:r.length<=sp.length+1) (h:(Yi x t sp st r).2=0):(Yi x t sp st r).1.times.length=sp.length:=by
 unfold Yi at h ⊢
 cases hf:W9 Wo none ((XD r (sp.length+1)).filterMap (We (Xr x t sp) 0 (labF t st))) with
 | none =>
  rw [hf] at h;simp only at h ⊢;exfalso
  have hm:YY r (sp.length+1)∈XD r (sp.length+1):=by
   grind [XD,YY,fromB_next]
  have h2:We (Xr x t sp) 0 (labF t st) (YY r (sp.length+1))=some (Xb x t sp 0 (labF t st) (YY r (sp.length+1))).1:=by rw [YF,if_pos h]
  have h3:(Xb x t sp 0 (labF t st) (YY r (sp.length+1))).1∈(XD r (sp.length+1)).filterMap (We (Xr x t sp) 0 (labF t st)):=Qm.2 ⟨_,hm,h2⟩;generalize (XD r (sp.length+1)).filterMap (We (Xr x t sp) 0 (labF t st))=l at hf h3
  cases l with
  | nil=>simp at h3
  | cons a l =>
   rw [W9] at hf;obtain ⟨z,e,_⟩:=VJ Wo l a
   grind
 | some L =>
  simp only;have hm:=fmL_mem _ _ hf;obtain ⟨bs,hbs,hrun⟩:=Qm.1 hm;rw [YF] at hrun
  split at hrun
  ·rename_i h5;simp at hrun;subst hrun;obtain ⟨q,hq,rfl⟩:=Xw.1 hbs;have hql:=fromB_len _ _ hq;simp at hql;exact Og _ 0 _ rfl (by grind) (by grind) h5
  ·cases hrun
where
 fmL_mem: ∀(l:List Lab) (L:Lab),W9 Wo none l=some L->L∈l
 | [],L,h=>by simp [W9] at h
 | a::l,L,h=>by
  rw [W9] at h;exact fmL_mem2 l a L h
 fmL_mem2: ∀(l:List Lab) (a L:Lab),W9 Wo (some a) l=some L->L∈a::l
 | [],a,L,h=>by grind [W9]
 | y::l,a,L,h=>by
  rw [W9] at h
  split at h
  ·have:=fmL_mem2 l y L h;grind
  ·have:=fmL_mem2 l a L h;grind
 fromB_len: ∀(l q:List Bool),q∈Y4 l->q.length=l.length
 | [],q,h=>by grind [Y4]
 | b::bs,q,h=>by
  rw [Y4] at h
  split at h
  ·obtain ⟨q',hq,rfl⟩:=Xw.1 h;simp [fromB_len bs q' hq]
  ·rcases Xe.1 h with h | h
   ·obtain ⟨q',hq,rfl⟩:=Xw.1 h;simp [fromB_len bs q' hq]
   ·obtain ⟨q',hq,rfl⟩:=Xw.1 h;simp [fromB_len (List.replicate bs.length false) q' hq]
 termination_by l=>l.length
 decreasing_by all_goals simp
def Xm (x:Inst) (v:Vis):Stp:=if v.drp=true then (nth x.orders v.order.toNat).drp else (nth x.orders v.order.toNat).pick
def ZI (x:Inst) (l:List Vis):List Stp:=l.map (Xm x)
def Yg (t:Typ) (s:Int):Bool:=decide (0<=t.skills)&&decide (0<=s)&&(List.range 63).all fun i=> !s.toNat.testBit i||t.skills.toNat.testBit i
def V3 (a c:List Int):Bool:=decide (a.length=c.length)&&(List.range a.length).all fun i=>decide (nth a i<=nth c i)
def VA (x:Inst) (c:List Int) (l:List Vis):Bool:=(List.range (l.length+1)).all fun n=>V3 (Y2 x l n) c
def Zx (x:Inst) (r:Rte):Typ:=nth x.types r.typ.toNat
def UE (l:List Vis) (i:Nat):Bool:= !((l.take i).any fun v=>decide (v.order=(nth l i).order))
def Xu (k t:Int):Bool:=decide (k≠ -1)&&decide (k≠t)
def chgF (x:Inst) (l:List Vis) (t:Int):Nat->Int×Int
 | 0=>(0,0)
 | n+1=>if UE l n=true then ((chgF x l t n).1+(if Xu (nth x.orders (nth l n).order.toNat).now t=true then 1 else 0),(chgF x l t n).2+(if Xu (nth x.orders (nth l n).order.toNat).last t=true then 1 else 0)) else chgF x l t n
def Db (x:Inst) (r:Rte) (s:She):Sco :=
 ⟨(Zx x r).fixed+(Zx x r).perMile*s.miles+(Zx x r).perTick*(s.fin-(Zx x r).opn),(chgF x r.visits r.typ r.visits.length).1,(chgF x r.visits r.typ r.visits.length).2,(s.fin-(Zx x r).opn).tdiv 64*(s.fin-(Zx x r).opn).tdiv 64⟩
def XI (x:Inst) (r:Rte):Int :=
 if ¬(0<=r.typ/\r.typ<(x.types.length:Int)) then 2
 else if ¬Xf x r.visits=0 then Xf x r.visits
 else if (r.visits.any fun v=> !Yg (Zx x r) (nth x.orders v.order.toNat).skills)=true then 18
 else if VA x (Zx x r).cap r.visits=false then 17
 else if ¬(0<=r.start/\r.start<=4096/\r.rests.length<=r.visits.length+1) then 2
 else 0
def Xn (x:Inst) (r:Rte):She×Int:=Yi x (Zx x r) (ZI x r.visits) r.start r.rests
def Xo (x:Inst) (r:Rte):Int:=if XI x r=0 then (Xn x r).2 else XI x r
def Yc (x:Inst) (r:Rte):She:=if Xo x r=0 then (Xn x r).1 else zShe
def Wf (x:Inst) (r:Rte):Sco:=if Xo x r=0 then Db x r (Xn x r).1 else zSco
def Zer : Stp:=⟨0,0,0,0⟩
def Ny (x:Inst) (v:Vis):Bool:=decide (0<=v.order)&&decide (v.order<(x.orders.length:Int))
def Ak (x:Inst) (v:Vis):Bool:=Ny x v&&decide (0<=(Xm x v).place)
def Di (x:Inst) (v:Vis):Stp:=if Ny x v=true then Xm x v else Zer
theorem OE (x:Inst) (v:Vis) (ho:x.orders.length<=1048576):PT 256 [.p (Zu x),.p (Z9 v)] [.p (FI (Di x v)),.p (.bool (Ak x v))]:=by
 refine Zg [] Tryz.func256 rfl ZcM ?_;simp (disch:=omega) only [Tryz.f256,go_sem,seval];refine gF ?_ ?_<;>intro h1<;>simp (disch:=omega) only [Sh.out h1,go_sem,seval,↓reduceIte]
 ·have e:Ny x v=false:=by
   grind [Ny]
  simp only [Di,Ak,e,QK,Y6,Ye,Zer];exact we
 ·refine cD ?_ ?_<;>intro h2<;>simp (disch:=omega) only [Sh.out h2,go_sem,seval,↓reduceIte]
  ·have e:Ny x v=false:=by
    grind [Ny]
   simp only [Di,Ak,e,QK,Y6,Ye,Zer];exact we
  ·have e:Ny x v=true:=by simp [Ny];omega
   have hi:v.order.toNat<x.orders.length:=Za
   refine cD ?_ ?_<;>intro hd<;>simp (disch:=omega) only [Sh.out hd,go_sem,seval,↓reduceIte]
   ·have hG:Di x v=(nth x.orders v.order.toNat).drp:=by simp [Di,e,Xm,hd]
    have hV:Ak x v=decide (0<=(nth x.orders v.order.toNat).drp.place):=by simp [Ak,e,Xm,hd]
    rw [hG,hV];refine Fx (.cons 0 (.cons 1 (.cons 2 (.cons 3 (.cons 4 (.cons 5 .nil .nil) .nil) (.cons 4 (.cons 3 (.cons 5 .nil .nil) .nil) .nil)) (.cons 4 (.cons 2 (.cons 3 (.cons 5 .nil .nil) .nil) .nil) .nil)) (.cons 4 (.cons 1 (.cons 2 (.cons 3 (.cons 5 .nil .nil) .nil) .nil) .nil) .nil)) (.cons 1 (.cons 0 (.cons 2 (.cons 3 (.cons 4 (.cons 5 .nil .nil) .nil) (.cons 4 (.cons 3 (.cons 5 .nil .nil) .nil) .nil)) (.cons 4 (.cons 2 (.cons 3 (.cons 5 .nil .nil) .nil) .nil) .nil)) (.cons 2 (.cons 0 (.cons 3 (.cons 4 (.cons 5 .nil .nil) .nil) (.cons 4 (.cons 3 (.cons 5 .nil .nil) .nil) .nil)) (.cons 3 (.cons 0 (.cons 4 (.cons 5 .nil .nil) .nil) .nil) .nil)) .nil)) .nil)) mixed Zf ?_
    refine Zd ?_
    repeat' first
     | refine Dt ?_ ?_
     | exact we
     | simp (disch:=omega) only [go_sem,seval,↓reduceIte]
   ·have hG:Di x v=(nth x.orders v.order.toNat).pick:=by simp [Di,e,Xm,hd]
    have hV:Ak x v=decide (0<=(nth x.orders v.order.toNat).pick.place):=by simp [Ak,e,Xm,hd]
    rw [hG,hV];refine Fx (.cons 0 (.cons 1 (.cons 2 (.cons 3 (.cons 4 (.cons 5 .nil .nil) .nil) (.cons 4 (.cons 3 (.cons 5 .nil .nil) .nil) .nil)) (.cons 4 (.cons 2 (.cons 3 (.cons 5 .nil .nil) .nil) .nil) .nil)) (.cons 4 (.cons 1 (.cons 2 (.cons 3 (.cons 5 .nil .nil) .nil) .nil) .nil) .nil)) (.cons 1 (.cons 0 (.cons 2 (.cons 3 (.cons 4 (.cons 5 .nil .nil) .nil) (.cons 4 (.cons 3 (.cons 5 .nil .nil) .nil) .nil)) (.cons 4 (.cons 2 (.cons 3 (.cons 5 .nil .nil) .nil) .nil) .nil)) (.cons 2 (.cons 0 (.cons 3 (.cons 4 (.cons 5 .nil .nil) .nil) (.cons 4 (.cons 3 (.cons 5 .nil .nil) .nil) .nil)) (.cons 3 (.cons 0 (.cons 4 (.cons 5 .nil .nil) .nil) .nil) .nil)) .nil)) .nil)) mixed Zf ?_
    refine Zd ?_
    repeat' first
     | refine Dt ?_ ?_
     | exact we
     | simp (disch:=omega) only [go_sem,seval,↓reduceIte]
def Uu (x:Inst) (r:Rte):Bool:=(decide (0<=r.typ)&&decide (r.typ<(x.types.length:Int))&&decide (0<=r.start)&&decide (r.start<=4096)&&decide (r.visits.length<=20))&&r.visits.all (Ak x)
theorem Gq (x:Inst) (r:Rte) (ho:x.orders.length<=1048576) (ht:x.types.length<=1048576) (hl:r.visits.length<=1048576):PC 230 [.p (Zu x),.p (WM r)] (.bool (Uu x r)):=by
 refine Zc Tryz.func230 rfl Zcn ?_;simp (disch:=omega) only [Tryz.f230,go_sem,seval];refine gF ?_ ?_<;>intro h1<;>simp (disch:=omega) only [Sh.out h1,go_sem,seval,↓reduceIte]
 ·simp [Uu];omega
 ·refine gF ?_ ?_<;>intro h2<;>simp (disch:=omega) only [Sh.out h2,go_sem,seval,↓reduceIte]
  ·simp [Uu];omega
  ·refine gF ?_ ?_<;>intro h3<;>simp (disch:=omega) only [Sh.out h3,go_sem,seval,↓reduceIte]
   ·simp [Uu];omega
   ·refine gF ?_ ?_<;>intro h4<;>simp (disch:=omega) only [Sh.out h4,go_sem,seval,↓reduceIte]
    ·simp [Uu];omega
    ·refine cD ?_ ?_<;>intro h5<;>simp (disch:=omega) only [Sh.out h5,go_sem,seval]
     ·simp [Uu];omega
     ·refine Zl [2,3] (fun k:Nat=> [(5,.p (.int .i64 k))]) (fun _=> [Ze x,Xy r]) (fun k=>k<=r.visits.length/\ ∀j,j<k->Ak x (nth r.visits j)=true) (fun k=>r.visits.length-k) 0 Zb (Weak.mk ?_) ?_
      ·simp (disch:=omega) only [Ze,Xy,go_sem,seval]
      ·rintro k ⟨hk,hno⟩;refine Ae ?_;refine cD ?_ ?_<;>intro h<;>simp (disch:=omega) only [Sh.out h,go_sem,seval,↓reduceIte]
       ·have hk2:k<r.visits.length:=Za
        refine X6 [10,11] 12 mixed Zf Zf Zf Zb (Zd ?_);refine Qa (OE x (nth r.visits k) ho) (Zd ?_);refine Xv 10 _ _ Zf (by refine Zd ?_;exact ⟨rfl,rfl⟩) ?_;refine Zd ?_;refine Xv 11 _ _ Zf (by refine Zd ?_;exact ⟨rfl,rfl⟩) (WE ?_);refine Zd ?_;refine Z1 ?_ ?_<;>intro h6
        ·grind [Zt,Uu]
        ·exact ⟨k+1,⟨Za,Zr.2 ⟨hno,by grind⟩⟩,Za,wk⟩
       ·have hkl:k=r.visits.length:=Za
        subst hkl
        have:r.visits.all (Ak x)=true:=by
         rw [Zz];intro v hv;obtain ⟨j,hj,rfl⟩:=ZS.1 hv
         grind [Zi]
        grind [Uu]
@[go_sem high] theorem Zl8 {k k':IntKind} {a b:Int} :I0 false [.p (.int k a),.p (.int k' b)]=some (.int k (max a b)):=by
 grind [I0]
theorem PW {l:List Tim} {m:Tim} {d:Int} {b:Bool} :SN (l++ [m]) l.length d b=l++ [{ m with dep:=d,rest:=b }]:=by
 grind [Zi,SN]
theorem dV {x:Inst} {t:Typ} {sp:List Stp} {k:Nat} {d s m:Int} {h:She} (hk:k<sp.length) (ho:(nth sp k).opn<=(nth sp k).cls) (hm:h.miles=m) :
  (JJ x t ⟨Ue t sp k,d,s,m⟩ (nth sp k).place (nth sp k).cls 14).2=(WL t sp k (Wb x t sp k d) d s h).2 /\
  ((WL t sp k (Wb x t sp k d) d s h).2=0->(JJ x t ⟨Ue t sp k,d,s,m⟩ (nth sp k).place (nth sp k).cls 14).1=⟨(nth sp k).place,(Wb x t sp k d).1,s+(Wb x t sp k d).1-d,m+(Wb x t sp k d).2.1⟩ /\
   (WL t sp k (Wb x t sp k d) d s h).1=⟨max (Wb x t sp k d).1 (nth sp k).opn+(nth sp k).serv,s+(Wb x t sp k d).1-d,{ h with times_c:=false,times:=h.times++ [⟨(Wb x t sp k d).1,max (Wb x t sp k d).1 (nth sp k).opn,0,false⟩],miles:=m+(Wb x t sp k d).2.1 }⟩):=by
 have hne: ¬k=sp.length:=Za
 have e:W8 x.net t.prof (Ue t sp k) (nth sp k).place d=Wb x t sp k d:=by simp [Wb,OY,hne]
 unfold JJ WL
 grind
theorem dW {x:Inst} {t:Typ} {sp:List Stp} {d s m:Int} {h:She} (hm:h.miles=m) :
  (JJ x t ⟨Ue t sp sp.length,d,s,m⟩ t.dst t.cls 15).2=(WL t sp sp.length (Wb x t sp sp.length d) d s h).2 /\
  ((WL t sp sp.length (Wb x t sp sp.length d) d s h).2=0->(JJ x t ⟨Ue t sp sp.length,d,s,m⟩ t.dst t.cls 15).1=⟨t.dst,(Wb x t sp sp.length d).1,s+(Wb x t sp sp.length d).1-d,m+(Wb x t sp sp.length d).2.1⟩ /\
   (WL t sp sp.length (Wb x t sp sp.length d) d s h).1=⟨(Wb x t sp sp.length d).1,s+(Wb x t sp sp.length d).1-d,{ h with fin:=(Wb x t sp sp.length d).1,miles:=m+(Wb x t sp sp.length d).2.1 }⟩):=by
 have e:W8 x.net t.prof (Ue t sp sp.length) t.dst d=Wb x t sp sp.length d:=by simp [Wb,OY]
 unfold JJ WL
 grind
def Zea (s:StD):AM.Obj:= .cells [.p (.int .i64 s.place),.p (.int .i64 s.time),.p (.int .i64 s.driven),.p (.int .i64 s.miles)]
def Jt (t:Typ) (sp:List Stp) (k:Nat) (L:Lab) (b:Bool):StD:=⟨Ue t sp k,ZO t L b,W4 L b,L.she.miles⟩
theorem ZlH {g:FuncId} {args:List V} {a c:PV} {H:List AM.Obj} {K:V->List AM.Obj->Prop} (h:ACalls Tryz.prog g args [] fun x H'=> ∃b:PV,x= .tup [.p a,.p b,.p c]/\H'= []) (k: ∀b:PV,K (.tup [.p a,.p b,.p c]) H) (ha:Xs 0 args=true:=by rfl):ACalls Tryz.prog g args H K :=
 (h.behind ha H).mono fun x H' hq=>by
  obtain ⟨y,H1,⟨b,rfl,rfl⟩,rfl,rfl⟩:=hq
  grind [shV,shVs]
theorem Ym {x:Inst} {l:List Vis} :(ZI x l).length=l.length:=by simp [ZI]
theorem GS {x:Inst} {l:List Vis} {k:Nat} (h:k<l.length):nth (ZI x l) k=Xm x (nth l k):=by
 grind [Zi,ZI]
theorem JK {P Q:Prop} (h:Q) (e:Q->P:=by intro h;simp (disch:=omega) only [Zs,Zk,ZY,ZL,go_sem,seval];exact h):P:=e h
theorem vN (x:Inst) (r:Rte) (rests:List Bool) (c:Bool) (hok:TrpOk x (Zx x r) (ZI x r.visits)) (ho:x.orders.length<=1048576) (ht:x.types.length<=1048576) (hne:0<r.visits.length) (hp:Uu x r=true) (hl:rests.length=r.visits.length+1) :
  ACalls Tryz.prog 257 [.p (Zu x),.p (WM r),.p (.list c (rests.map eB))] [] fun y H'=> ∃d:PV,y= .tup [.p (FG (Xb x (Zx x r) (ZI x r.visits) 0 (labF (Zx x r) r.start) rests).1.she),.p d,.p (.int .i64 (Xb x (Zx x r) (ZI x r.visits) 0 (labF (Zx x r) r.start) rests).2)]/\H'= []:=by
 have hp2:=hp;simp only [Uu,Zw,Zq] at hp2;obtain ⟨⟨⟨⟨⟨p1,p2⟩,p3⟩,p4⟩,p5⟩,p6⟩:=hp2;have hvis: ∀k,k<r.visits.length->Ak x (nth r.visits k)=true:=fun k hk=>Zz.1 p6 _ (Zt hk)
 have hstop: ∀k,k<r.visits.length->Di x (nth r.visits k)=nth (ZI x r.visits) k:=fun k hk=>by
  simp_all [Ak,Di,GS]
 have hti:r.typ.toNat<x.types.length:=Za
 have hopn:=hok.opn;have hrst:=hok.rst;have htd:Zx x r=nth x.types r.typ.toNat:=rfl
 generalize hT:Zx x r=t at *
 have hsl:(ZI x r.visits).length=r.visits.length:=Ym
 generalize hS:ZI x r.visits=sp at *
 refine Zg [26] Tryz.func257 rfl ZcN ?_;simp (disch:=omega) only [Tryz.f257,go_sem,seval];refine (Gq x r ho ht Za).use (Zd ?_);rw [hp];refine Zd ?_;refine cD ?_ ?_<;>intro h0<;>simp (disch:=omega) only [Sh.out h0,<- htd,go_sem,seval,↓reduceIte]
 ·omega
 ·refine X6 [13] 14 mixed Zf Zf Zf Zb (Zd ?_);refine Zo (N9 t ⟨t.src,max t.opn r.start,0,0⟩ (nth rests 0) (by grind)) (Zd ?_);refine Xv 13 _ _ Zf (by refine Zd ?_;exact ⟨rfl,rfl⟩) (WE ?_);refine Zd ?_;refine X6 [6] 7 mixed Zf Zf Zf Zb (Zd ?_);refine Xv 6 _ _ Zf (by refine Zd ?_;exact ⟨rfl,rfl⟩) (WE ?_);refine Zd ?_;have hL0:LabR 0 (labF t r.start):=⟨by grind [labF],by simp [labF],by simp [labF,zShe]⟩
  have hS0:GA t ⟨t.src,max t.opn r.start,0,0⟩ (nth rests 0)=Jt t sp 0 (labF t r.start) (nth rests 0):=by
   simp only [GA,Jt,Ue,ZO,W4,labF,zShe,if_true]
   split<;>rfl
  simp (disch:=omega) only [hS0,go_sem,seval]
  refine Z0 [26] [2,3,4,6,9,10,11] (fun q:Nat×Lab×List Int=> [(12,.sl 7 0 q.2.2.length q.2.2.length),(13,.p (.int .i64 q.1))])
   (fun q=> [Ze x,Xy r,.cells [.p (.bool false),.p (.int .i64 0),.p (.list true []),.p (.int .i64 0),.p (.int .i64 0)],X9 t,Zea (Jt t sp q.1 q.2.1 (nth rests q.1)),
    .cells [.p (.bool (X5 q.1 (ZO t q.2.1 (nth rests q.1)) (nth rests q.1) q.2.1.she).rest),.p (.int .i64 (X5 q.1 (ZO t q.2.1 (nth rests q.1)) (nth rests q.1) q.2.1.she).dep),.sl 6 0 (X5 q.1 (ZO t q.2.1 (nth rests q.1)) (nth rests q.1) q.2.1.she).times.length (X5 q.1 (ZO t q.2.1 (nth rests q.1)) (nth rests q.1) q.2.1.she).times.length,.p (.int .i64 0),.p (.int .i64 0)],
    .elems 4 ((X5 q.1 (ZO t q.2.1 (nth rests q.1)) (nth rests q.1) q.2.1.she).times.map eTim),.elems 1 (q.2.2.map eI)])
   (fun q=>q.1<=r.visits.length/\Xb x t sp 0 (labF t r.start) rests=Xb x t sp q.1 q.2.1 (rests.drop q.1)/\LabR q.1 q.2.1/\q.2.1.she.times.length=q.1/\q.2.1.she.fin=0/\(0<q.1->q.2.1.she.times_c=false)/\q.2.2.length=q.1) (fun q=>r.visits.length-q.1) (0,labF t r.start,[])
   ⟨Zb,Zb,hL0,by rfl,by rfl,Zb,Zb⟩ ((Weak.nilC (o:=5) (j:=2) 4 rfl rfl Zb).trans (Weak.ofNil 12 1 rfl Zb (Weak.mk ?_))) ?_
  ·simp (disch:=omega) only [Ze,Xy,X9,Zea,Jt,Ue,X5,labF,zShe,Zk,ZH,ZY,ZL,ZP,ZC,go_sem,seval]
  ·rintro ⟨k,L,ds⟩ ⟨hk,hrun,hL,hlen,hfin,hclip,hds⟩;simp only at hk hrun hL hlen hfin hclip hds
   have hmlen:(X5 k (ZO t L (nth rests k)) (nth rests k) L.she).times.length=k:=by grind [AS]
   have hd:=KK hok hL (nth rests k);have hs:=GQ hL (nth rests k);have hg:=Lw hok hL (nth rests k);have hmi:=hL.mil
   generalize hm:X5 k (ZO t L (nth rests k)) (nth rests k) L.she=m at *
   have hmm:m.miles=L.she.miles:=by rw [<- hm,KV]
   have hmf:m.fin=0:=by grind [Ie]
   have hdrop:rests.drop k=nth rests k::rests.drop (k+1):=by grind [Ub,Zi]
   have hnx:nxtF x t sp k L (nth rests k)=WL t sp k (Wb x t sp k (ZO t L (nth rests k))) (ZO t L (nth rests k)) (W4 L (nth rests k)) m:=by rw [nxtF,hm]
   rw [hdrop,Xb] at hrun;simp (disch:=omega) only [Ze,Xy,X9,Zea,go_sem,seval];refine cD ?_ ?_<;>intro h<;>simp (disch:=omega) only [Sh.out h,go_sem,seval,↓reduceIte]
   ·have hk2:k<r.visits.length:=Za
    have hsp:=hok.stp _ (Z2 (show k<sp.length by omega));refine X6 [10,11] 12 mixed Zf Zf Zf Zb (Zd ?_);refine Qa (OE x (nth r.visits k) ho) (Zd ?_);refine Xv 10 _ _ Zf (by refine Zd ?_;exact ⟨rfl,rfl⟩) ?_;refine Zd ?_;refine Xv 11 _ _ Zf (by refine Zd ?_;exact ⟨rfl,rfl⟩) (WE ?_);simp (disch:=omega) only [hstop k hk2,go_sem,seval];obtain ⟨f1,f2⟩:=dV (x:=x) (t:=t) (d:=ZO t L (nth rests k)) (s:=W4 L (nth rests k)) (h:=m) (show k<sp.length by omega) hsp.2.1 hmm
    have he2:W8 x.net t.prof (Ue t sp k) (nth sp k).place (ZO t L (nth rests k))=Wb x t sp k (ZO t L (nth rests k)):=by
     grind [Wb,OY]
    refine Yo (OD x t (Jt t sp k L (nth rests k)) (nth sp k).place (nth sp k).cls 14 hok.net ?_ ?_ ?_ ?_) ?_
    ·grind [Jt]
    ·grind [Jt,fC]
    ·grind [Jt,fC]
    ·grind [Jt,fC]
    have f1':(JJ x t (Jt t sp k L (nth rests k)) (nth sp k).place (nth sp k).cls 14).2=(nxtF x t sp k L (nth rests k)).2:=by rw [hnx,<- f1];rfl
    refine Zd ?_;rw [f1'];refine cD ?_ ?_<;>intro h3<;>simp (disch:=omega) only [Sh.out h3,go_sem,seval,↓reduceIte]
    ·rw [if_neg h3] at hrun;rw [hrun];simp only [W6,zShe];exact ⟨_,_,Weak.mk (by simp (disch:=omega) only [Zk,go_sem,seval]),.list true [],rfl,rfl⟩
    ·have h3':(nxtF x t sp k L (nth rests k)).2=0:=Z7.1 h3;rw [if_pos h3'] at hrun;have hL':=LU hok Za hL h3';rw [hnx] at h3';obtain ⟨f3,f4⟩:=f2 h3';have f3':(JJ x t (Jt t sp k L (nth rests k)) (nth sp k).place (nth sp k).cls 14).1=⟨(nth sp k).place,(Wb x t sp k (ZO t L (nth rests k))).1,W4 L (nth rests k)+(Wb x t sp k (ZO t L (nth rests k))).1-ZO t L (nth rests k),L.she.miles+(Wb x t sp k (ZO t L (nth rests k))).2.1⟩:=f3
     have hL2:(nxtF x t sp k L (nth rests k)).1=⟨max (Wb x t sp k (ZO t L (nth rests k))).1 (nth sp k).opn+(nth sp k).serv,W4 L (nth rests k)+(Wb x t sp k (ZO t L (nth rests k))).1-ZO t L (nth rests k),{ m with times_c:=false,times:=m.times++ [⟨(Wb x t sp k (ZO t L (nth rests k))).1,max (Wb x t sp k (ZO t L (nth rests k))).1 (nth sp k).opn,0,false⟩],miles:=L.she.miles+(Wb x t sp k (ZO t L (nth rests k))).2.1 }⟩:=by grind
     simp (disch:=omega) only [f3',go_sem,seval];refine X6 [13] 14 mixed Zf Zf Zf Zb (Zd ?_);refine Xv 13 _ _ Zf (by refine Zd ?_;exact ⟨rfl,rfl⟩) (WE ?_);refine Zd ?_
     generalize (nxtF x t sp k L (nth rests k)).1=L2 at *
     have hS1:GA t ⟨(nth sp k).place,max (Wb x t sp k (ZO t L (nth rests k))).1 (nth sp k).opn+(nth sp k).serv,W4 L (nth rests k)+(Wb x t sp k (ZO t L (nth rests k))).1-ZO t L (nth rests k),L.she.miles+(Wb x t sp k (ZO t L (nth rests k))).2.1⟩ (nth rests (k+1))=Jt t sp (k+1) L2 (nth rests (k+1)):=by
      rw [hL2];simp only [GA,Jt,Ue,ZO,W4,Nat.add_sub_cancel,if_neg (show ¬k+1=0 by omega)]
      split<;>rfl
     have hM:X5 (k+1) (ZO t L2 (nth rests (k+1))) (nth rests (k+1)) L2.she= { m with times_c:=false,times:=m.times++ [⟨(Wb x t sp k (ZO t L (nth rests k))).1,max (Wb x t sp k (ZO t L (nth rests k))).1 (nth sp k).opn,ZO t L2 (nth rests (k+1)),nth rests (k+1)⟩],miles:=L.she.miles+(Wb x t sp k (ZO t L (nth rests k))).2.1 } :=by
      have he:L2.she= { m with times_c:=false,times:=m.times++ [⟨(Wb x t sp k (ZO t L (nth rests k))).1,max (Wb x t sp k (ZO t L (nth rests k))).1 (nth sp k).opn,0,false⟩],miles:=L.she.miles+(Wb x t sp k (ZO t L (nth rests k))).2.1 } :=by rw [hL2]
      rw [he,X5,if_neg Za,Nat.add_sub_cancel]
      grind [PW]
     have hd2:=KK hok hL' (nth rests (k+1));refine ZE 8 mixed Zf Zf (Zd ?_);refine Zo (N9 t ⟨(nth sp k).place,max (Wb x t sp k (ZO t L (nth rests k))).1 (nth sp k).opn+(nth sp k).serv,W4 L (nth rests k)+(Wb x t sp k (ZO t L (nth rests k))).1-ZO t L (nth rests k),L.she.miles+(Wb x t sp k (ZO t L (nth rests k))).2.1⟩ (nth rests (k+1)) (by grind)) (Zd ?_);simp (disch:=omega) only [hS1,go_sem,seval];refine ⟨(k+1,L2,ds++ [L2.since]),⟨Za,hrun,hL',by grind,by grind,by grind,by simp [hds]⟩,Za,Weak.mk ?_⟩
     simp (disch:=omega) only [hM,hmlen,ZA,ZF,ZH,XC,Zs,Zk,go_sem,seval];exact ⟨rfl,by grind⟩
   ·have hkl:k=sp.length:=Za
    subst hkl;obtain ⟨f1,f2⟩:=dW (x:=x) (t:=t) (sp:=sp) (d:=ZO t L (nth rests sp.length)) (s:=W4 L (nth rests sp.length)) (h:=m) hmm
    have he2:W8 x.net t.prof (Ue t sp sp.length) t.dst (ZO t L (nth rests sp.length))=Wb x t sp sp.length (ZO t L (nth rests sp.length)):=by simp [Wb,OY]
    refine Yo (OD x t (Jt t sp sp.length L (nth rests sp.length)) t.dst t.cls 15 hok.net ?_ ?_ ?_ ?_) ?_
    ·grind [Jt]
    ·grind [Jt,fC]
    ·grind [Jt,fC]
    ·grind [Jt,fC]
    have f1':(JJ x t (Jt t sp sp.length L (nth rests sp.length)) t.dst t.cls 15).2=(nxtF x t sp sp.length L (nth rests sp.length)).2:=by rw [hnx,<- f1];rfl
    refine Zd ?_;rw [f1'];have hdl:rests.drop (sp.length+1)= []:=CC Za;rw [hdl,Xb] at hrun;refine cD ?_ ?_<;>intro h3<;>simp (disch:=omega) only [Sh.out h3,go_sem,seval,↓reduceIte]
    ·rw [if_neg h3] at hrun;rw [hrun];simp only [W6,zShe];exact ⟨_,_,Weak.mk (by simp (disch:=omega) only [Zk,go_sem,seval]),.list true [],rfl,rfl⟩
    ·have h3':(nxtF x t sp sp.length L (nth rests sp.length)).2=0:=Z7.1 h3;rw [if_pos h3'] at hrun;rw [hnx] at h3';obtain ⟨f3,f4⟩:=f2 h3';have f3':(JJ x t (Jt t sp sp.length L (nth rests sp.length)) t.dst t.cls 15).1=⟨t.dst,(Wb x t sp sp.length (ZO t L (nth rests sp.length))).1,W4 L (nth rests sp.length)+(Wb x t sp sp.length (ZO t L (nth rests sp.length))).1-ZO t L (nth rests sp.length),L.she.miles+(Wb x t sp sp.length (ZO t L (nth rests sp.length))).2.1⟩:=f3;rw [hrun,hnx,f4];simp (disch:=omega) only [f3',go_sem,seval];refine Zp (Weak.fz (o:=6) (by rfl)) ?_
     refine Zp (Weak.fz (o:=7) (by rfl)) (Zh [] _ _ _ _ (JK ?_))
     have hmc:m.times_c=false:=by
      grind [X5]
     exact ⟨_,_,Weak.mk (by simp (disch:=omega) only [hmc,go_sem,seval]),.list false (ds.map eI++ [.int .i64 (W4 L (nth rests sp.length)+(Wb x t sp sp.length (ZO t L (nth rests sp.length))).1-ZO t L (nth rests sp.length))]),rfl,rfl⟩
theorem qI (x:Inst) (r:Rte) (rests:List Bool) (c:Bool) (hok:TrpOk x (Zx x r) (ZI x r.visits)) (ho:x.orders.length<=1048576) (ht:x.types.length<=1048576) (hne:0<r.visits.length) (hp:Uu x r=true) (hl:rests.length=r.visits.length+1) :
  PT 231 [.p (Zu x),.p (WM r),.p (.list c (rests.map eB))] [.p (FG (Xb x (Zx x r) (ZI x r.visits) 0 (labF (Zx x r) r.start) rests).1.she),.p (.int .i64 (Xb x (Zx x r) (ZI x r.visits) 0 (labF (Zx x r) r.start) rests).2)]:=by
 have cr:=vN x r rests c hok ho ht hne hp hl;generalize (Xb x (Zx x r) (ZI x r.visits) 0 (labF (Zx x r) r.start) rests)=q at cr ⊢;obtain ⟨L,e⟩:=q;refine Zg [] Tryz.func231 rfl Zco ?_;simp (disch:=omega) only [Tryz.f231,go_sem,seval];refine ZlH cr fun d=>Zd ?_;exact we
def Em (l:List Bool) (n:Nat):Option (List Bool):=(YD (l.drop n)).map (l.take n++ ·)
def P6 : Option (List Bool)->PV
 | some l=> .list false (l.map eB)
 | none=> .list true []
theorem K0 : ∀m:Nat,YD (List.replicate m true)=none
 | 0=>rfl
 | m+1=>by rw [KU,YD,K0 m];rfl
theorem Ih : ∀(a b r:List Bool),YD b=some r->YD (a++b)=some (a++r)
 | [],b,r,h=>h
 | x::a,b,r,h=>by rw [ZP,YD,Ih a b r h];rfl
theorem lZ (a:List Bool) (m:Nat):YD (a++false::List.replicate m true)=some (a++true::List.replicate m false):=by
 grind [Ih,YD,K0]
theorem Ow {o:List Bool} {i:Nat} {b:Bool} :(o.map eB).set i (.bool b)=(o.set i b).map eB:=by rw [Ug];rfl
theorem lY (l:List Bool) (c:Bool) (n:Nat) (hn:n<=l.length) (h0:0<l.length) (hl:l.length<=1048576):PT 232 [.p (.list c (l.map eB)),.p (.int .i64 (n:Nat))] [.p (P6 (Em l n)),.p (.bool (Em l n).isSome)]:=by
 refine Zg [8] Tryz.func232 rfl Zcp ?_;simp (disch:=omega) only [Tryz.f232,go_sem,seval];rw [if_pos ⟨Za,Za⟩];refine Zd ?_;refine Z0 [8] [1] (fun q:Nat×List Bool=> [(6,.sl 0 0 q.2.length q.2.length),(7,.p (.int .i64 ((q.1:Int)-1)))]) (fun q=> [.elems 1 (q.2.map eB)]) (fun q=>n<=q.1/\q.1<=l.length/\q.2=l.take q.1++List.replicate (l.length-q.1) false/\l.drop q.1=List.replicate (l.length-q.1) true) (fun q=>q.1) (l.length,l) (by simp;omega) (Weak.mk ?_) ?_
 ·simp (disch:=omega) only [go_sem,seval]
 ·rintro ⟨j,o⟩ ⟨hj1,hj2,ho,hjt⟩;simp only at hj1 hj2 ho hjt
  have hol:o.length=l.length:=by grind
  refine Zd ?_;refine cD ?_ ?_<;>intro h<;>simp (disch:=omega) only [Sh.out h,go_sem,seval,↓reduceIte]
  ·obtain ⟨i,rfl⟩: ∃i,j=i+1:=⟨j-1,Za⟩
   have hij:(((i+1:Nat):Int)-1)=(i:Int):=Za
   have hat:nth o i=nth l i:=by
    grind [Zi]
   have Hk:l.drop i=nth l i::List.replicate (l.length-(i+1)) true:=by
    grind [Ub,Zi]
   have hio:i<o.length:=Za
   simp (disch:=first | omega | (simp only [ZF,ZH,ZA,ZG,Xi,XL]<;>omega)) only [Int.add_sub_cancel,U0,hat,hio,go_sem,seval,↓reduceIte];refine cD ?_ ?_<;>intro h2<;>simp (disch:=omega) only [Sh.out h2,go_sem,seval]
   ·have hf:nth l i=false:=by grind
    have hres:Em l n=some (o.set i true):=by
     rw [hf] at Hk
     have e:l.drop n=(l.drop n).take (i-n)++false::List.replicate (l.length-(i+1)) true:=by
      rw [<- Hk,show l.drop i=(l.drop n).drop (i-n) by simp_all,List.take_append_drop]
     rw [Em,e,lZ,ho];simp only [AJ,Qn]
     have e2:l.take (i+1)=l.take n++(l.drop n).take (i-n)++ [nth l i]:=by
      rw [Ya Za,Zi Za]
      congr 1
      have:l.take i=l.take (n+(i-n)):=by congr 1;omega
      grind
     rw [e2,hf]
     have el:(l.take n++(l.drop n).take (i-n)).length=i:=by simp;omega
     rw [Vo (l.take n++(l.drop n).take (i-n)),EV _ _ Za,el];simp
    rw [hres];simp (disch:=first | omega | (simp only [ZF,ZH,ZA,ZG,Xi,XL]<;>omega)) only [Ow,go_sem,seval,↓reduceIte];refine Zp (Weak.fz (o:=0) (by rfl)) ?_;refine Zh [] _ _ _ _ ?_;simp (disch:=omega) only [Zs,Zk,ZL,go_sem,seval];simp only [U3,if_true];exact we (by simp (disch:=omega) only [P6,Ki,go_sem,seval])
   ·have hf:nth l i=true:=by grind
    simp (disch:=first | omega | (simp only [ZF,ZH,ZA,ZG,Xi,XL]<;>omega)) only [Ow,go_sem,seval];refine ⟨(i,o.set i false),⟨Za,Za,?_,?_⟩,Za,Weak.mk (by simp (disch:=first | omega | (simp only [ZF,ZH,ZA,ZG,Xi,XL]<;>omega)) only [U3,go_sem,seval])⟩
    ·grind
    grind
  ·have hjn:j=n:=Za
   have hres:Em l n=none:=by grind [Em,K0]
   rw [hres];exact we (by simp (disch:=omega) only [P6,AF,go_sem,seval])
theorem bQ {r q:List Bool} :Em (r++q) r.length=(YD q).map (r++ ·):=by simp [Em]
theorem cF {l:List Bool} :P6 (some l)= .list false (l.map eB):=rfl
theorem cE : P6 none= .list true []:=rfl
def Hu (b:Option Lab):She:=match b with | some L=>L.she | none=>zShe
def Hr (r:List Bool) (cur:Option (List Bool)):List (List Bool):=match cur with | some q=>(Y4 q).map (r++ ·) | none=> []
theorem DY {r s:List Bool} :Hr r (some s)=(r++s)::Hr r (YD s):=by
 grind [Hr,fromB_next]
theorem Of {x:Inst} {t:Typ} {sp:List Stp} : ∀(bs:List Bool) (k:Nat) (L:Lab),¬(Xb x t sp k L bs).2=0->(Xb x t sp k L bs).1=W6
 | [],k,L,h=>by simp [Xb] at h
 | b::bs,k,L,h=>by
  rw [Xb] at h ⊢
  split
  ·rename_i c;rw [if_pos c] at h;exact Of bs _ _ h
  ·rfl
theorem gN (x:Inst) (r:Rte) (hok:TrpOk x (Zx x r) (ZI x r.visits)) (ho:x.orders.length<=1048576) (ht:x.types.length<=1048576) (hne:0<r.visits.length) (hp:Uu x r=true) (hl:r.rests.length<=r.visits.length+1) :
  PT 208 [.p (Zu x),.p (WM r)] [.p (FG (Xn x r).1),.p (.int .i64 (Xn x r).2)]:=by
 have hsl:(ZI x r.visits).length=r.visits.length:=Ym;have hp2:=hp;simp only [Uu,Zw,Zq] at hp2;have hv20:=hp2.1.2;have hrun:=fun rests (c:Bool) (h:rests.length=r.visits.length+1)=>qI x r rests c hok ho ht hne hp h;have hopt:=fun bs=>YF (x:=x) (t:=Zx x r) (sp:=ZI x r.visits) bs 0 (labF (Zx x r) r.start);unfold Xn Yi
 generalize hS:ZI x r.visits=sp at *
 generalize Zx x r=t at *
 generalize labF t r.start=L0 at *
 refine Zg [5,6] Tryz.func208 rfl kS ?_;simp (disch:=omega) only [Tryz.f208,go_sem,seval];refine (Gq x r ho ht Za).use (Zd ?_);rw [hp];refine Zd ?_;refine cD ?_ ?_<;>intro h0<;>simp (disch:=omega) only [Sh.out h0,go_sem,seval,↓reduceIte]
 ·omega
 ·refine WC (EI 3 rfl rfl (Zd ?_));refine ⟨_,_,NW (e:=4) rfl Tryz.underlying31 Zf rfl rfl rfl ?_ ?_ ?_,?_⟩
  ·simp
  ·simp;omega
  ·intro q hq;obtain ⟨b,_,rfl⟩:=Xw.1 hq
   rfl
  ·have hpl:(YY r.rests (sp.length+1)).length=r.visits.length+1:=by simp [YY];omega
   have hpad:r.rests.map eB++(PV.bool false::List.replicate r.visits.length (PV.bool false)).drop (r.rests.map eB).length=(YY r.rests (sp.length+1)).map eB:=by
    rw [YY,XC,<- KU,List.drop_replicate,AE,hsl,ZG];rfl
   simp only [ZY,ZL];rw [hpad];have h0r:=hopt (YY r.rests (sp.length+1))
   have cn: ∀s:List Bool,(r.rests++s).length=r.visits.length+1->PT 232 [.p (.list false ((r.rests++s).map eB)),.p (.int .i64 (r.rests.length:Nat))] [.p (P6 ((YD s).map (r.rests++ ·))),.p (.bool ((YD s).map (r.rests++ ·)).isSome)]:=fun s hs=>by
    grind [lY,bQ]
   have e1:(Xb x t sp 0 L0 (YY r.rests (sp.length+1))).1.she=Hu (We (Xr x t sp) 0 L0 (YY r.rests (sp.length+1))):=by
    rw [h0r]
    split
    ·rfl
    ·rename_i c;rw [Of _ _ _ c];rfl
   have e2:decide ((Xb x t sp 0 L0 (YY r.rests (sp.length+1))).2=0)=(We (Xr x t sp) 0 L0 (YY r.rests (sp.length+1))).isSome:=by
    grind
   have hrp:=hrun (YY r.rests (sp.length+1)) false hpl;have hall:XD r.rests (sp.length+1)=Hr r.rests (some (List.replicate (sp.length+1-r.rests.length) false)):=rfl;refine Zp (Weak.fz (o:=3) (by rfl)) (Zh [] _ _ _ _ (JK ?_));rw [if_pos hpl];refine Yo hrp (Zd ?_);refine Yo (cn (List.replicate (sp.length+1-r.rests.length) false) hpl) ?_;simp (disch:=omega) only [e1,e2,go_sem,seval]
   have hfm:W9 Wo none ((XD r.rests (sp.length+1)).filterMap (We (Xr x t sp) 0 L0))=W9 Wo (We (Xr x t sp) 0 L0 (YY r.rests (sp.length+1))) ((Hr r.rests (YD (List.replicate (sp.length+1-r.rests.length) false))).filterMap (We (Xr x t sp) 0 L0)):=by
    rw [hall,DY,List.filterMap_cons];rw [show r.rests++List.replicate (sp.length+1-r.rests.length) false=YY r.rests (sp.length+1) from rfl]
    cases We (Xr x t sp) 0 L0 (YY r.rests (sp.length+1)) with
    | none=>rfl
    | some L=>rfl
   clear hall;generalize W9 Wo none ((XD r.rests (sp.length+1)).filterMap (We (Xr x t sp) 0 L0))=res at hfm ⊢;generalize (Xb x t sp 0 L0 (YY r.rests (sp.length+1))).2=err0
   refine Zl [2,3,4,8,9] (fun q:Option (List Bool)×Option Lab=> [(7,.p (P6 (q.1.map (r.rests++ ·)))),(10,.p (.bool q.2.isSome)),(11,.p (.bool (q.1.map (r.rests++ ·)).isSome))])
    (fun q=> [Ze x,Xy r,.cells [.p (.bool false),.p (.int .i64 0),.p (.list true []),.p (.int .i64 0),.p (.int .i64 0)],.dead,.cells [.p (.bool (Hu q.2).rest),.p (.int .i64 (Hu q.2).dep),.p (.list (Hu q.2).times_c ((Hu q.2).times.map eTim)),.p (.int .i64 (Hu q.2).fin),.p (.int .i64 (Hu q.2).miles)]])
    (fun q=>res=W9 Wo q.2 ((Hr r.rests q.1).filterMap (We (Xr x t sp) 0 L0))/\ ∀s,q.1=some s->s.length=sp.length+1-r.rests.length) (fun q=>(Hr r.rests q.1).length)
    (YD (List.replicate (sp.length+1-r.rests.length) false),We (Xr x t sp) 0 L0 (YY r.rests (sp.length+1))) ⟨hfm,fun s hs=>by have:=fromB_next.nlen _ _ hs;grind⟩ (Weak.mk ?_) ?_
   ·simp (disch:=omega) only [Ze,Xy,go_sem,seval]
   ·rintro ⟨cur,b⟩ ⟨hR,hcl⟩;simp only at hR hcl
    cases cur with
    | none =>
     simp only [Hr,List.filterMap_nil] at hR;simp (disch:=omega) only [Option.map_none,AF,cE,Ze,Xy,go_sem,seval]
     cases b with
     | none =>
      rw [W9] at hR;subst hR;simp (disch:=omega) only [AF,Vs,go_sem,seval];exact we (by simp (disch:=omega) only [zShe,Zk,go_sem,seval])
     | some m =>
      rw [W9] at hR;subst hR;simp (disch:=omega) only [Ki,YV,Hu,go_sem,seval];exact we
    | some s =>
     have hsl2:=hcl s rfl;rw [DY,List.filterMap_cons,hopt] at hR
     have hmu:(Hr r.rests (YD s)).length<(Hr r.rests (some s)).length:=by rw [DY];simp
     have hnl: ∀s',YD s=some s'->s'.length=sp.length+1-r.rests.length:=fun s' hs'=>by grind [fromB_next.nlen]
     have hlen:(r.rests++s).length=r.visits.length+1:=by simp;omega
     have hr1:=hrun (r.rests++s) false hlen;have cn1:=cn s hlen;rw [XC] at hr1 cn1;simp (disch:=omega) only [AJ,Ki,cF,Ze,Xy,go_sem,seval];generalize Xb x t sp 0 L0 (r.rests++s)=g at hR hr1;obtain ⟨Lg,eg⟩:=g;simp only at hR hr1;refine Yo hr1 (Zd ?_);refine gT ?_ ?_<;>intro h1<;>simp (disch:=omega) only [Sh.out h1,go_sem,seval,↓reduceIte]
     ·subst h1
      cases b with
      | none =>
       simp (disch:=omega) only [AF,Vs,go_sem,seval];refine Yo cn1 (Zd ?_);exact ⟨(YD s,some Lg),⟨hR,hnl⟩,hmu,Weak.mk (by simp (disch:=omega) only [Hu,Ki,go_sem,seval])⟩
      | some m =>
       simp (disch:=omega) only [Ki,YV,Hu,go_sem,seval];refine cD ?_ ?_<;>intro h2<;>simp (disch:=omega) only [Sh.out h2,go_sem,seval,↓reduceIte]
       ·refine Yo cn1 ?_;refine Zd ?_;exact ⟨(YD s,some Lg),⟨by rw [hR];simp only [if_true,W9,Wo,h2],hnl⟩,hmu,Weak.mk (by simp (disch:=omega) only [Ki,go_sem,seval])⟩
       ·refine Yo cn1 ?_;refine Zd ?_;exact ⟨(YD s,some m),⟨by rw [hR];simp only [if_true,W9,Wo,h2,Ye],hnl⟩,hmu,Weak.mk (by simp (disch:=omega) only [Ki,go_sem,seval])⟩
     ·rw [if_neg h1] at hR;refine Yo cn1 (Zd ?_);exact ⟨(YD s,b),⟨hR,hnl⟩,hmu,wk⟩
def eR (p:Bool×List Int):PV:= .list p.1 (p.2.map eI)
@[go_sem] theorem ZqJ (p:Bool×List Int):eR p= .list p.1 (p.2.map eI):=Zm rfl rfl
theorem jA (L:List (Bool×List Int)) (c:Bool) (d:Nat) (hd:d<=3) (hL:L.length<=1048576) (h: ∀p∈L,p.2.length=d):PC 288 [.p (.list c (L.map eR)),.p (.int .i64 (d:Nat))] (.bool true):=by
 refine Zc Tryz.func288 rfl Zdi ?_
 have e1: ¬(d:Int)<0:=Za
 have e2: ¬(3:Int)<d:=Za
 simp (disch:=omega) only [Tryz.f288,e1,e2,go_sem,seval];refine Zl [0,1] (fun k:Nat=> [(5,.p (.int .i64 k))]) (fun _=> []) (fun k=>k<=L.length) (fun k=>L.length-k) 0 Zb (Weak.mk ?_) ?_
 ·simp (disch:=omega) only [go_sem,seval,↓reduceIte]
 ·intro k hk;refine Zd ?_;refine cD ?_ ?_<;>intro h1<;>simp (disch:=omega) only [Sh.out h1,go_sem,seval,↓reduceIte]
  ·have hk2:k<L.length:=Za
   have hp:=h _ (Zt hk2);simp (disch:=omega) only [hp,go_sem,seval];exact ⟨k+1,Za,Za,wk⟩
def Ey (L:List (Bool×List Int)) (k j:Nat):Int:=((L.take k).map fun p=>nth p.2 j).sum
theorem HF {L:List (Bool×List Int)} {k j:Nat} (h:k<L.length):Ey L (k+1) j=Ey L k j+nth (nth L k).2 j:=by
 grind [Ey,Ya,Zi]
theorem M4 {L:List (Bool×List Int)} {d j:Nat} (h: ∀p∈L,p.2.length=d/\ ∀n∈p.2,0<=n/\n<=1000) (hj:j<d): ∀k,k<=L.length->0<=Ey L k j/\Ey L k j<=1000*(k:Int)
 | 0,_=>by simp [Ey]
 | k+1,hk=>by
  have ih:=M4 h hj k Za;obtain ⟨h1,h2⟩:=h _ (Zt (show k<L.length by omega));have:=h2 _ (Zt (show j<(nth L k).2.length by omega))
  grind [HF]
def wF (L:List (Bool×List Int)) (d:Nat):List Int:=(List.range d).map fun j=>Ey L L.length j
theorem wE (L:List (Bool×List Int)) (c:Bool) (d:Nat) (hd:1<=d/\d<=3) (hL:L.length<=1048576) (h: ∀p∈L,p.2.length=d/\ ∀n∈p.2,0<=n/\n<=1000) :
  PT 275 [.p (.list c (L.map eR)),.p (.int .i64 (d:Nat))] [.p (.list false ((wF L d).map eI)),.p (.int .i64 0)]:=by
 refine Zg [13] Tryz.func275 rfl Zc5 ?_;simp (disch:=omega) only [Tryz.f275,go_sem,seval];refine (jA L c d hd.2 hL fun p hp=>(h p hp).1).use (Zd ?_);refine Z0 [13] [0,1] (fun q:Nat×List Int=> [(6,.sl 0 0 q.2.length q.2.length),(7,.p (.int .i64 q.1))]) (fun q=> [.elems 1 (q.2.map eI)]) (fun q=>q.1<=d/\q.2=(List.range q.1).map fun j=>Ey L L.length j) (fun q=>d-q.1) (0,[]) Zb (Weak.ofNil 6 1 rfl Zb (Weak.mk ?_)) ?_
 ·simp (disch:=omega) only [Zk,ZH,go_sem,seval,↓reduceIte]
 ·rintro ⟨j,o⟩ ⟨hj,ho⟩;simp only at hj ho
  have hol:o.length=j:=by rw [ho];simp
  refine Zd ?_;refine cD ?_ ?_<;>intro h1<;>simp (disch:=omega) only [Sh.out h1,go_sem,seval,↓reduceIte]
  ·have hj2:j<d:=Za
   refine Zl [0,1,6,7] (fun k:Nat=> [(8,.p (.int .i64 (Ey L k j))),(9,.p (.int .i64 k))]) (fun _=> [.elems 1 (o.map eI)]) (fun k=>k<=L.length) (fun k=>L.length-k) 0 Zb (Weak.mk ?_) ?_
   ·simp (disch:=omega) only [Ey,Je,Zk,List.sum_nil,go_sem,seval,↓reduceIte]
   ·intro k hk;refine Zd ?_;refine cD ?_ ?_<;>intro h2<;>simp (disch:=omega) only [Sh.out h2,go_sem,seval,↓reduceIte]
    ·have hk2:k<L.length:=Za
     obtain ⟨g1,g2⟩:=h _ (Zt hk2);have g3:=g2 _ (Zt (show j<(nth L k).2.length by omega));have g4:=M4 h hj2 k hk;have g5:=HF (j:=j) hk2
     have g6:j<(nth L k).2.length:=Za
     refine Zd ?_;exact ⟨k+1,Za,Za,Weak.mk (by simp (disch:=omega) only [g5,go_sem,seval])⟩
    ·have hkl:k=L.length:=Za
     subst hkl;refine ⟨(j+1,o++ [Ey L L.length j]),⟨Za,by grind [Yl]⟩,Za,Weak.mk (by simp (disch:=omega) only [ZA,ZF,ZH,XC,Zs,Zk,go_sem,seval])⟩
  ·have hjd:j=d:=Za
   subst hjd;refine Zp (Weak.fz (o:=0) (by rfl)) ?_;refine Zh [] _ _ _ _ ?_;simp (disch:=omega) only [Zs,Zk,ZL,go_sem,seval];rw [wF,<- ho];exact we
theorem jJ (a b:List Int) (c d:Bool) (ha:a.length<=1048576) (hb:b.length<=1048576):PC 229 [.p (.list c (a.map eI)),.p (.list d (b.map eI))] (.bool (V3 a b)):=by
 refine Zc Tryz.func229 rfl Zcm ?_;simp (disch:=omega) only [Tryz.f229,go_sem,seval];refine cD ?_ ?_<;>intro h1<;>simp (disch:=omega) only [Sh.out h1,go_sem,seval]
 ·grind [V3]
 ·have h1':a.length=b.length:=Za
  refine Zl [0,1] (fun k:Nat=> [(5,.p (.int .i64 k))]) (fun _=> []) (fun k=>k<=a.length/\ ∀j,j<k->nth a j<=nth b j) (fun k=>a.length-k) 0 Zb (Weak.mk ?_) ?_
  ·simp (disch:=omega) only [go_sem,seval,↓reduceIte]
  ·rintro k ⟨hk,hno⟩;refine Zd ?_;refine cD ?_ ?_<;>intro h2<;>simp (disch:=omega) only [Sh.out h2,go_sem,seval,↓reduceIte]
   ·have hk2:k<a.length:=Za
    refine Xd (Zd ?_);refine cD ?_ ?_<;>intro h3<;>simp (disch:=omega) only [Sh.out h3,go_sem,seval,↓reduceIte]
    ·grind [V3]
    ·exact ⟨k+1,⟨Za,Zr.2 ⟨hno,Za⟩⟩,Za,wk⟩
   ·have hkl:k=a.length:=Za
    simp_all [V3]
theorem iU (x:Inst) (ht:x.types.length<=1048576):PC 276 [.p (Zu x)] (.int .i64 (dimsOf x.types)):=by
 refine Zc Tryz.func276 rfl Zc6 ?_;simp (disch:=omega) only [Tryz.f276,go_sem,seval];refine cD ?_ ?_<;>intro h1<;>simp (disch:=omega) only [Sh.out h1,go_sem,seval,↓reduceIte]
 ·grind [dimsOf]
 simp_all [dimsOf]
structure LdOk (x:Inst):Prop where
 ord:x.orders.length<=10
 typ:x.types.length<=1048576
 dim:1<=dimsOf x.types/\dimsOf x.types<=3
 load: ∀o∈x.orders,(o.load.length:Int)=dimsOf x.types/\ ∀n∈o.load,0<=n/\n<=1000
theorem QI {x:Inst} (h:InstOk x):LdOk x:=by
 have ht:=h.types.1;simp only [rng,Zq] at ht;have ho:=h.orders
 have h0:0<x.types.length:=Za
 have hcap:=h.types.2 0 h0;unfold Ux at hcap;obtain ⟨⟨⟨⟨⟨⟨⟨⟨_,_⟩,_⟩,_⟩,hcap⟩,_⟩,_⟩,_⟩,_⟩:=hcap;simp only [VH,Zw,Zq,rng] at hcap;refine ⟨ho.1,Za,Za,fun o hm=> ?_⟩;obtain ⟨i,hi,rfl⟩:=ZS.1 hm;have:=(ho.2 i hi).load;rw [Zi hi] at this
 simp_all [loadOk,rng]
def G9 (x:Inst) (l:List Vis) (n k:Nat):List (Bool×List Int):=((List.range k).filter fun i=>ED x l n i&&hasO l i).map fun i=>((nth x.orders i).load_c,(nth x.orders i).load)
theorem T4 {x:Inst} {l:List Vis} {n k:Nat} :G9 x l n (k+1)=G9 x l n k++if (ED x l n k&&hasO l k)=true then [((nth x.orders k).load_c,(nth x.orders k).load)] else []:=by
 grind [G9,Yl]
theorem gU {x:Inst} {l:List Vis} {n:Nat} : ∀k,(G9 x l n k).length<=k:=fun k=>by
 grind [G9]
theorem rV {x:Inst} {l:List Vis} {n k:Nat} (h:LdOk x) (hk:k<=x.orders.length): ∀p∈G9 x l n k,p.2.length=(dimsOf x.types).toNat/\ ∀m∈p.2,0<=m/\m<=1000:=fun p hp=>by
 obtain ⟨i,hi,rfl⟩:=Xw.1 hp;have hi2:=ZM.1 (Jf.1 hi).1;have:=h.load _ (Zt (show i<x.orders.length by omega))
 grind
theorem gV {x:Inst} {l:List Vis} {n:Nat} :wF (G9 x l n x.orders.length) (dimsOf x.types).toNat=Y2 x l n:=by
 unfold wF Y2
 grind [Ey,G9,Dl,Ko]
def yJ (x:Inst) (l:List Vis) (n i k:Nat):Bool:=(l.take (min k n)).foldl (fun on v=>if v.order=(i:Int) then !v.drp else on) (decide ((nth x.orders i).pick.place<0))
def PN (l:List Vis) (i k:Nat):Bool:=(l.take k).any fun v=>decide (v.order=(i:Int))
theorem mG {x:Inst} {l:List Vis} {n i k:Nat} (h:k<l.length):yJ x l n i (k+1)=if (nth l k).order=(i:Int) then (if k<n then !(nth l k).drp else yJ x l n i k) else yJ x l n i k:=by
 grind [yJ,Ya,Zi]
theorem aV {l:List Vis} {i k:Nat} (h:k<l.length):PN l i (k+1)=if (nth l k).order=(i:Int) then true else PN l i k:=by
 grind [PN,Ya,Zi]
theorem uE {x:Inst} {l:List Vis} {n i:Nat} (h:n<=l.length):yJ x l n i l.length=ED x l n i:=by
 grind [yJ,ED]
theorem kG {l:List Vis} {i:Nat} :PN l i l.length=hasO l i:=by grind [PN,hasO]
theorem TJ (x:Inst) (l:List Vis) (c:Bool) (n:Nat) (hx:LdOk x) (hl:l.length<=1048576) (hn:n<=l.length) :
  PT 255 [.p (Zu x),.p (.list c (l.map Z9)),.p (.int .i64 (n:Nat))] [.p (.list false ((Y2 x l n).map eI)),.p (.int .i64 0)]:=by
 have ho:=hx.ord;refine Zg [15] Tryz.func255 rfl ZcL ?_;simp (disch:=omega) only [Tryz.f255,go_sem,seval];refine Z0 [15] [1,2,3] (fun q:Nat×List (Bool×List Int)=> [(8,.sl 1 0 q.2.length q.2.length),(9,.p (.int .i64 q.1))]) (fun q=> [Ze x,.elems 1 (q.2.map eR)]) (fun q=>q.1<=x.orders.length/\q.2=G9 x l n q.1) (fun q=>x.orders.length-q.1) (0,[]) (by simp [G9]) (Weak.ofNil 8 1 rfl Zb (Weak.mk ?_)) ?_
 ·simp (disch:=omega) only [Ze,Zk,ZH,ZP,ZC,go_sem,seval]
 ·rintro ⟨i,o⟩ ⟨hi,hob⟩;simp only at hi hob
  have hol:o.length<=i:=by grind [gU]
  refine YJ ?_;refine cD ?_ ?_<;>intro h1<;>simp (disch:=omega) only [Sh.out h1,go_sem,seval,↓reduceIte]
  ·have hi2:i<x.orders.length:=Za
   refine Zl [1,2,3,8,9] (fun k:Nat=> [(10,.p (.bool (yJ x l n i k))),(11,.p (.bool (PN l i k))),(12,.p (.int .i64 k))]) (fun _=> [Ze x,.elems 1 (o.map eR)]) (fun k=>k<=l.length) (fun k=>l.length-k) 0 Zb (Weak.mk ?_) ?_
   ·simp (disch:=omega) only [Ze,yJ,PN,Nat.zero_min,Je,UM,List.any_nil,go_sem,seval]
   ·intro k hk;refine YJ ?_;refine cD ?_ ?_<;>intro h2<;>simp (disch:=omega) only [Sh.out h2,go_sem,seval,↓reduceIte]
    ·have hk2:k<l.length:=Za
     have s1:=mG (x:=x) (n:=n) (i:=i) hk2;have s2:=aV (i:=i) hk2;refine Z1 ?_ ?_<;>intro h3
     ·rw [if_neg h3] at s1 s2;exact ⟨k+1,Za,Za,Weak.mk (by simp (disch:=omega) only [s1,s2,go_sem,seval])⟩
     ·have h3':=Z7.1 h3;rw [if_pos h3'] at s1 s2;refine Z1 ?_ ?_<;>intro h4
      ·rw [if_pos Za] at s1;exact ⟨k+1,Za,Za,Weak.mk (by simp (disch:=omega) only [s1,s2,go_sem,seval])⟩
      ·rw [if_neg Za] at s1;exact ⟨k+1,Za,Za,Weak.mk (by simp (disch:=omega) only [s1,s2,go_sem,seval])⟩
    ·have hkl:k=l.length:=Za
     subst hkl;have s3:=T4 (x:=x) (l:=l) (n:=n) (k:=i);rw [uE hn,kG];refine Jr ?_ ?_<;>intro h5
     ·refine Z1 ?_ ?_<;>intro h6
      ·rw [h5,h6,Bool.and_self,if_pos rfl] at s3;exact ⟨(i+1,o++ [((nth x.orders i).load_c,(nth x.orders i).load)]),⟨Za,by grind⟩,Za,Weak.mk (by simp (disch:=omega) only [ZA,ZF,ZH,XC,Zs,Zk,go_sem,seval])⟩
      ·rw [h5,h6,Bool.and_false,if_neg Zb,Yr] at s3;exact ⟨(i+1,o),⟨Za,by grind⟩,Za,wk⟩
     ·have h5':ED x l n i=false:=Za
      rw [h5',QK,if_neg Zb,Yr] at s3;exact ⟨(i+1,o),⟨Za,by grind⟩,Za,wk⟩
  ·have hik:i=x.orders.length:=Za
   subst hik
   have hD:dimsOf x.types=((dimsOf x.types).toNat:Int):=by have:=hx.dim;omega
   have hok:=rV (l:=l) (n:=n) hx (ZD _);rw [<- hob] at hok;have hs:=gV (x:=x) (l:=l) (n:=n);rw [<- hob] at hs;refine Zp (Weak.fz (o:=1) (by rfl)) (Zh [] _ _ _ _ (JK ?_));refine (iU x hx.typ).use (Zd ?_);rw [hD];refine Yo (wE o false (dimsOf x.types).toNat (by have:=hx.dim;omega) Za hok) (Zd ?_);rw [<- hs];exact we
def qB (l:List Int):PV:= .list false (l.map eI)
@[go_sem] theorem ZaJ (l:List Int):qB l= .list false (l.map eI):=Zm rfl rfl
def QO (x:Inst) (l:List Vis):List (List Int):=(List.range (l.length+1)).map (Y2 x l)
theorem bI (x:Inst) (r:Rte) (hx:InstOk x) (hl:r.visits.length<=1048576) (h0:Xf x r.visits=0) (hchk:PC 205 [.p (Zu x),.p (WM r)] (.int .i64 (Xf x r.visits))) :
  PT 228 [.p (Zu x),.p (WM r)] [.p (.list false ((QO x r.visits).map qB)),.p (.int .i64 0)]:=by
 have hd:=QI hx;refine Zg [12] Tryz.func228 rfl Zcl ?_;simp (disch:=omega) only [Tryz.f228,go_sem,seval];refine (hchk).use (Zd ?_);simp (disch:=omega) only [h0,go_sem,seval];refine Z0 [12] [2,3] (fun q:Nat×List (List Int)=> [(7,.sl 2 0 q.2.length q.2.length),(8,.p (.int .i64 q.1))]) (fun q=> [Ze x,Xy r,.elems 1 (q.2.map qB)]) (fun q=>q.1<=r.visits.length+1/\q.2=(List.range q.1).map (Y2 x r.visits)) (fun q=>r.visits.length+1-q.1) (0,[]) Zb (Weak.ofNil 7 1 rfl Zb (Weak.mk ?_)) ?_
 ·simp (disch:=omega) only [Ze,Xy,Zk,ZH,ZP,ZC,go_sem,seval]
 ·rintro ⟨k,o⟩ ⟨hk,ho⟩;simp only at hk ho
  have hol:o.length=k:=by rw [ho];simp
  refine Ae ?_;refine cD ?_ ?_<;>intro h1<;>simp (disch:=omega) only [Sh.out h1,go_sem,seval,↓reduceIte]
  ·refine Yo (TJ x r.visits r.visits_c k hd hl Za) (Zd ?_);exact ⟨(k+1,o++ [Y2 x r.visits k]),⟨Za,by grind [Yl]⟩,Za,Weak.mk (by simp (disch:=omega) only [ZA,ZF,ZH,XC,Zs,Zk,go_sem,seval])⟩
  ·have hkl:k=r.visits.length+1:=Za
   subst hkl;refine Zp (Weak.fz (o:=2) (by rfl)) (Zh [] _ _ _ _ (JK ?_));rw [QO,<- ho];exact we
theorem jK (x:Inst) (r:Rte) (hx:InstOk x) (hl:r.visits.length<=1048576) (hty:0<=r.typ/\r.typ<(x.types.length:Int)) (h0:Xf x r.visits=0) (hchk:PC 205 [.p (Zu x),.p (WM r)] (.int .i64 (Xf x r.visits))) :
  PC 207 [.p (Zu x),.p (WM r)] (.int .i64 (if VA x (Zx x r).cap r.visits=true then 0 else 17)):=by
 have hd:=QI hx;have htl:=hd.typ
 have hti:r.typ.toNat<x.types.length:=Za
 have hcp:(nth x.types r.typ.toNat).cap.length<=3:=by
  have hcap:=hx.types.2 _ hti;unfold Ux at hcap;obtain ⟨⟨⟨⟨⟨⟨⟨⟨_,_⟩,_⟩,_⟩,hcap⟩,_⟩,_⟩,_⟩,_⟩:=hcap;simp only [VH,Zw,Zq,rng] at hcap;omega
 have hll:(QO x r.visits).length=r.visits.length+1:=by simp [QO]
 have hln: ∀k,k<r.visits.length+1->nth (QO x r.visits) k=Y2 x r.visits k:=fun k hk=>by
  grind [Zi,QO]
 have hal: ∀k,(Y2 x r.visits k).length<=3:=fun k=>by rw [Fl];have:=hd.dim;omega
 have cl:=bI x r hx hl h0 hchk;unfold Zx
 generalize hL:QO x r.visits=L at *
 refine Zc Tryz.func207 rfl Zb2 ?_
 have e1: ¬r.typ<0:=Za
 have e2: ¬(x.types.length:Int)<=r.typ:=Za
 simp (disch:=omega) only [Tryz.f207,e1,e2,go_sem,seval];refine Yo cl (Zd ?_);refine Zl [2,3,5] (fun k:Nat=> [(7,.p (.int .i64 k))]) (fun _=> [Ze x,Xy r]) (fun k=>k<=r.visits.length+1/\ ∀j,j<k->V3 (Y2 x r.visits j) (nth x.types r.typ.toNat).cap=true) (fun k=>r.visits.length+1-k) 0 Zb (Weak.mk ?_) ?_
 ·simp (disch:=omega) only [Ze,Xy,go_sem,seval]
 ·rintro k ⟨hk,hno⟩;simp (disch:=omega) only [Ze,Xy,hll,go_sem,seval];refine cD ?_ ?_<;>intro h1<;>simp (disch:=omega) only [Sh.out h1,go_sem,seval,↓reduceIte]
  ·have hk2:k<r.visits.length+1:=Za
   have hk3:k<L.length:=Za
   have hk4:=hal k;refine Xd ?_;simp (disch:=omega) only [hln k hk2,go_sem,seval];refine Zo (jJ (Y2 x r.visits k) (nth x.types r.typ.toNat).cap false (nth x.types r.typ.toNat).cap_c Za Za) (Zd ?_);refine Z1 ?_ ?_<;>intro h2
   ·have h2':V3 (Y2 x r.visits k) (nth x.types r.typ.toNat).cap=false:=by grind
    have: ¬VA x (nth x.types r.typ.toNat).cap r.visits=true:=fun h=>by
     grind [VA]
    grind
   ·exact ⟨k+1,⟨Za,Zr.2 ⟨hno,by grind⟩⟩,Za,wk⟩
  ·have:VA x (nth x.types r.typ.toNat).cap r.visits=true:=by
    grind [VA]
   grind
def MV (j:Nat):Int:=if j=63 then-9223372036854775808 else ((pw j:Nat):Int)
theorem R4 {j:Nat} (h:j<63):MV j=((pw j:Nat):Int):=by rw [MV,if_neg Za]
theorem ZdU {j:Nat} (h:j<=62):pw j<=4611686018427387904:=by have:=Kx h;rwa [Gt] at this
theorem MW {j:Nat} (h:j<=63):0<MV j↔j<63:=by
 grind [MV,Gu]
theorem yW {S q:Nat} (hS:S<9223372036854775808) (h:q<=S):IntKind.i64.wrap (q:Int)=(q:Int):=by rw [IntKind.wrap_i64];omega
theorem ZdW {P:Program} {t:TypeId} {S j:Nat} (hS:S<9223372036854775808):Yp P .quo t (.p (.int .i64 (S:Int))) (.p (.int .i64 ((pw j:Nat):Int)))=some (.int .i64 ((S / pw j:Nat):Int)):=by
 have hp:=Gu j;rw [fH Za]
 have e:(S:Int).tdiv ((pw j:Nat):Int)=((S / pw j:Nat):Int):=by
  rfl
 have hle:=Nat.div_le_self S (pw j);rw [e,yW hS hle]
theorem vK {P:Program} {t:TypeId} {S:Nat} :Yp P .rem t (.p (.int .i64 (S:Int))) (.p (.int .i64 2))=some (.int .i64 ((S%2:Nat):Int)):=by
 rfl
theorem ZkN {S j:Nat} (hS:S<9223372036854775808):(IntKind.i64.wrap ((S:Int) / ((pw j:Nat):Int))).tmod 2=((S / pw j%2:Nat):Int):=by
 have hle:=Nat.div_le_self S (pw j)
 grind [yW]
theorem lV {P:Program} {t:TypeId} {j:Nat} (h:j<63):Yp P .mul t (.p (.int .i64 ((pw j:Nat):Int))) (.p (.int .i64 2))=some (.int .i64 (MV (j+1))):=by
 grind [fF,MV,ZdU,pw,IntKind.wrap_i64]
theorem fK (t:Typ) (s:Int) (h1:t.skills<9223372036854775808) (h2:s<9223372036854775808):PC 206 [.p (X4 t),.p (.int .i64 s)] (.bool (Yg t s)):=by
 refine Zc Tryz.func206 rfl Zb1 ?_;simp (disch:=omega) only [Tryz.f206,go_sem,seval];refine gF ?_ ?_<;>intro c1<;>simp (disch:=omega) only [Sh.out c1,go_sem,seval,↓reduceIte]
 ·grind [Yg]
 ·refine cD ?_ ?_<;>intro c2<;>simp (disch:=omega) only [Sh.out c2,go_sem,seval]
  ·grind [Yg]
  ·obtain ⟨M,hM⟩: ∃M:Nat,t.skills=(M:Int):=⟨t.skills.toNat,Za⟩;obtain ⟨S,rfl⟩: ∃S:Nat,s=(S:Int):=⟨s.toNat,Za⟩
   have hMl:M<9223372036854775808:=Za
   have hSl:S<9223372036854775808:=Za
   have hab: ∀b:Bool,((List.range 63).all fun i=> !S.testBit i||M.testBit i)=b->Yg t (S:Int)=b:=fun b hb=>by
    simp_all [Yg]
   refine Zl [1,2] (fun j:Nat=> [(5,.p (.int .i64 (MV j)))]) (fun _=> [X9 t]) (fun j=>j<=63/\ ∀i,i<j->(!S.testBit i||M.testBit i)=true) (fun j=>63-j) 0 Zb (Weak.mk ?_) ?_
   ·simp (disch:=omega) only [X9,hM,show MV 0=1 from rfl,go_sem,seval]
   ·rintro j ⟨hj,hno⟩;simp (disch:=omega) only [X9,hM,go_sem,seval];refine cD ?_ ?_<;>intro c3<;>simp (disch:=omega) only [Sh.out c3,go_sem,seval,↓reduceIte]
    ·have hj2:j<63:=(MW hj).1 c3;simp (disch:=omega) only [R4 hj2,ZkN hSl,Lc,go_sem,seval];refine gT ?_ ?_<;>intro c4<;>simp (disch:=omega) only [Sh.out c4,R4 hj2,ZdW hMl,ZkN hSl,vK,lV hj2,Lc,Lb,go_sem,seval]
     ·refine cD ?_ ?_<;>intro c5<;>simp (disch:=omega) only [Sh.out c5,lV hj2,go_sem,seval]
      ·grind
      ·exact ⟨j+1,⟨Za,Zr.2 ⟨hno,by grind⟩⟩,Za,Weak.mk (by simp (disch:=omega) only [hM,go_sem,seval])⟩
     ·exact ⟨j+1,⟨Za,Zr.2 ⟨hno,by grind⟩⟩,Za,Weak.mk (by simp (disch:=omega) only [hM,go_sem,seval])⟩
    ·have hj63:j=63:=by
      rcases Wy j 63 with h | h
      ·simp_all [MW]
      ·omega
     simp_all
theorem Pk (l:List Vis) (c:Bool) (n:Nat) (hn:n<l.length) (hl:l.length<=1048576):PC 233 [.p (.list c (l.map Z9)),.p (.int .i64 (n:Nat))] (.bool (UE l n)):=by
 refine Zc Tryz.func233 rfl Zcq ?_;simp (disch:=omega) only [Tryz.f233,go_sem,seval];refine Zl [0,1] (fun k:Nat=> [(5,.p (.int .i64 k))]) (fun _=> []) (fun k=>k<=n/\ ∀j,j<k->(nth l j).order≠(nth l n).order) (fun k=>n-k) 0 Zb (Weak.mk ?_) ?_
 ·simp (disch:=omega) only [go_sem,seval,↓reduceIte]
 ·rintro k ⟨hk,hno⟩;refine Zd ?_;refine cD ?_ ?_<;>intro h1<;>simp (disch:=omega) only [Sh.out h1,go_sem,seval,↓reduceIte]
  ·have hk2:k<n:=Za
   have hk3:k<l.length:=Za
   refine Xd (Zd ?_);refine cD ?_ ?_<;>intro h2<;>simp (disch:=omega) only [Sh.out h2,go_sem,seval,↓reduceIte]
   ·grind [UE,KX]
   ·exact ⟨k+1,⟨Za,Zr.2 ⟨hno,h2⟩⟩,Za,wk⟩
  ·have hkn:k=n:=Za
   subst hkn
   have:UE l k=true:=by
    unfold UE;rw [XS,Vb];intro v hv;obtain ⟨j,j1,j2,rfl⟩:=QB hv
    grind
   rw [this]
def Dd (c m o w:Int):AM.Obj:= .cells [.p (.int .i64 c),.p (.int .i64 m),.p (.int .i64 o),.p (.int .i64 w)]
theorem Cc {x:Inst} {l:List Vis} {t:Int} : ∀n:Nat,(0<=(chgF x l t n).1/\(chgF x l t n).1<=n)/\(0<=(chgF x l t n).2/\(chgF x l t n).2<=n)
 | 0=>by simp [chgF]
 | n+1=>by
  have ih:=Cc (x:=x) (l:=l) (t:=t) n
  grind [chgF]
theorem dC (x:Inst) (r:Rte) (s:She) (hty:0<=r.typ/\r.typ<(x.types.length:Int)) (ho:x.orders.length<=1048576) (ht:x.types.length<=1048576) (hl:r.visits.length<=1048576) (hv:Inr x r.visits)
  (hc:0<=(Zx x r).fixed/\(Zx x r).fixed<=100000/\0<=(Zx x r).perMile/\(Zx x r).perMile<=100/\0<=(Zx x r).perTick/\(Zx x r).perTick<=100) (ho2:0<=(Zx x r).opn/\(Zx x r).opn<=4096)
  (hf: -4096<=s.fin/\s.fin<=8192) (hm:0<=s.miles/\s.miles<=1000000) :
  PC 209 [.p (Zu x),.p (WM r),.p (FG s)] (EB (Db x r s)):=by
 have hti:r.typ.toNat<x.types.length:=Za
 unfold Db;have htd:nth x.types r.typ.toNat=Zx x r:=rfl
 generalize Zx x r=t at *
 have e1: ¬r.typ<0:=Za
 have e2: ¬(x.types.length:Int)<=r.typ:=Za
 have p1:0<=t.perMile*s.miles/\t.perMile*s.miles<=100*1000000:=⟨UL Za Za,VO Za Za Za Za⟩
 have hW: -8192<=s.fin-t.opn/\s.fin-t.opn<=8192:=Za
 have p2: -819200<=t.perTick*(s.fin-t.opn)/\t.perTick*(s.fin-t.opn)<=819200:=by
  generalize s.fin-t.opn=w at hW;have a1:=BG hW.2 (show 0<=t.perTick by omega);have a2:=BG hW.1 (show 0<=t.perTick by omega);omega
 have p3: -128<=(s.fin-t.opn).tdiv 64/\(s.fin-t.opn).tdiv 64<=128:=by
  grind
 have p4:0<=(s.fin-t.opn).tdiv 64*(s.fin-t.opn).tdiv 64/\(s.fin-t.opn).tdiv 64*(s.fin-t.opn).tdiv 64<=16384:=by
  generalize (s.fin-t.opn).tdiv 64=q at p3;refine ⟨?_,?_⟩
  ·rcases AO 0 q with h | h
   ·exact UL h h
   ·exact Int.mul_nonneg_of_nonpos_of_nonpos h h
  ·rcases AO 0 q with h | h
   ·have:=VO p3.2 p3.2 h Za;omega
   ·have h2:0<= -q:=Za
    have:=VO (show-q<=128 by omega) (show-q<=128 by omega) h2 Za
    grind
 refine Zc Tryz.func209 rfl Zb3 ?_;simp (disch:=omega) only [Tryz.f209,e1,e2,htd,go_sem,seval];refine Zl [3,4,6,9] (fun k:Nat=> [(10,.p (.int .i64 k))]) (fun k=> [Ze x,Xy r,.cells [.p (.bool s.rest),.p (.int .i64 s.dep),.p (.list s.times_c (s.times.map eTim)),.p (.int .i64 s.fin),.p (.int .i64 s.miles)],Dd 0 0 0 0,X9 t,Dd (t.fixed+t.perMile*s.miles+t.perTick*(s.fin-t.opn)) (chgF x r.visits r.typ k).1 (chgF x r.visits r.typ k).2 ((s.fin-t.opn).tdiv 64*(s.fin-t.opn).tdiv 64)]) (fun k=>k<=r.visits.length) (fun k=>r.visits.length-k) 0 Zb (Weak.mk ?_) ?_
 ·simp (disch:=omega) only [Ze,Xy,X9,Dd,chgF,go_sem,seval]
 ·intro k hk;have hch:=Cc (x:=x) (l:=r.visits) (t:=r.typ) k;simp (disch:=omega) only [Ze,Xy,X9,Dd,go_sem,seval];refine cD ?_ ?_<;>intro h1<;>simp (disch:=omega) only [Sh.out h1,go_sem,seval,↓reduceIte]
  ·have hk2:k<r.visits.length:=Za
   obtain ⟨v1,v2⟩:=hv _ (Zt hk2)
   have e3: ¬(nth r.visits k).order<0:=Za
   have e4: ¬(x.orders.length:Int)<=(nth r.visits k).order:=Za
   have v3:(nth r.visits k).order.toNat<x.orders.length:=Za
   simp (disch:=omega) only [e3,e4,go_sem,seval];refine (Pk r.visits r.visits_c k hk2 hl).use (Zd ?_);have hcs:chgF x r.visits r.typ (k+1)=_:=chgF.eq_2 x r.visits r.typ k;refine Z1 ?_ ?_<;>intro h2
   ·have h2': ¬UE r.visits k=true:=by grind
    exact ⟨k+1,Za,Za,Weak.mk (by simp (disch:=omega) only [hcs,if_neg h2',go_sem,seval])⟩
   ·have h2':UE r.visits k=true:=by grind
    refine Xd (Zd ?_);refine gT ?_ ?_<;>intro h3<;>simp (disch:=omega) only [Sh.out h3,go_sem,seval,↓reduceIte]
    ·refine cD ?_ ?_<;>intro h4<;>simp (disch:=omega) only [Sh.out h4,go_sem,seval,↓reduceIte]
     ·have hn:Xu (nth x.orders (nth r.visits k).order.toNat).now r.typ=true:=by simp [Xu,h3,h4]
      refine Xd (Zd ?_);refine Jr ?_ ?_<;>intro h5
      ·refine Z1 ?_ ?_<;>intro h6
       ·have hl2:Xu (nth x.orders (nth r.visits k).order.toNat).last r.typ=true:=by simp [Xu,h5,h6]
        exact ⟨k+1,Za,Za,Weak.mk (by simp (disch:=omega) only [hcs,if_pos h2',hn,hl2,go_sem,seval,↓reduceIte])⟩
       ·have hl2:Xu (nth x.orders (nth r.visits k).order.toNat).last r.typ=false:=by simp_all [Xu]
        exact ⟨k+1,Za,Za,Weak.mk (by simp (disch:=omega) only [hcs,if_pos h2',hn,hl2,UN,Y6,go_sem,seval,↓reduceIte])⟩
      ·have hl2:Xu (nth x.orders (nth r.visits k).order.toNat).last r.typ=false:=by simp_all [Xu]
       exact ⟨k+1,Za,Za,Weak.mk (by simp (disch:=omega) only [hcs,if_pos h2',hn,hl2,UN,Y6,go_sem,seval,↓reduceIte])⟩
     ·have hn:Xu (nth x.orders (nth r.visits k).order.toNat).now r.typ=false:=by simp_all [Xu]
      refine Xd (Zd ?_);refine Jr ?_ ?_<;>intro h5
      ·refine Z1 ?_ ?_<;>intro h6
       ·have hl2:Xu (nth x.orders (nth r.visits k).order.toNat).last r.typ=true:=by simp [Xu,h5,h6]
        exact ⟨k+1,Za,Za,Weak.mk (by simp (disch:=omega) only [hcs,if_pos h2',hn,hl2,UN,Y6,go_sem,seval,↓reduceIte])⟩
       ·have hl2:Xu (nth x.orders (nth r.visits k).order.toNat).last r.typ=false:=by grind
        exact ⟨k+1,Za,Za,Weak.mk (by simp (disch:=omega) only [hcs,if_pos h2',hn,hl2,UN,Y6,go_sem,seval,↓reduceIte])⟩
      ·have hl2:Xu (nth x.orders (nth r.visits k).order.toNat).last r.typ=false:=by simp_all [Xu]
       exact ⟨k+1,Za,Za,Weak.mk (by simp (disch:=omega) only [hcs,if_pos h2',hn,hl2,UN,Y6,go_sem,seval,↓reduceIte])⟩
    ·have hn:Xu (nth x.orders (nth r.visits k).order.toNat).now r.typ=false:=by simp_all [Xu]
     refine Xd (Zd ?_);refine Jr ?_ ?_<;>intro h5
     ·refine Z1 ?_ ?_<;>intro h6
      ·have hl2:Xu (nth x.orders (nth r.visits k).order.toNat).last r.typ=true:=by simp [Xu,h5,h6]
       exact ⟨k+1,Za,Za,Weak.mk (by simp (disch:=omega) only [hcs,if_pos h2',hn,hl2,UN,Y6,go_sem,seval,↓reduceIte])⟩
      ·have hl2:Xu (nth x.orders (nth r.visits k).order.toNat).last r.typ=false:=by simp_all [Xu]
       exact ⟨k+1,Za,Za,Weak.mk (by simp (disch:=omega) only [hcs,if_pos h2',hn,hl2,UN,Y6,go_sem,seval,↓reduceIte])⟩
     ·have hl2:Xu (nth x.orders (nth r.visits k).order.toNat).last r.typ=false:=by grind
      exact ⟨k+1,Za,Za,Weak.mk (by simp (disch:=omega) only [hcs,if_pos h2',hn,hl2,UN,Y6,go_sem,seval,↓reduceIte])⟩
  grind
theorem SqOk.len {x:Inst} {l:List Vis} (h:SqOk x l) (hn:x.orders.length<=10):l.length<=20:=by
 have h1:=List.Nodup.length_le_of_subset (l₁ :=l) (l₂ :=(List.range 10).flatMap fun i:Nat=> [(⟨(i:Int),false⟩:Vis),⟨(i:Int),true⟩]) h.nd (fun v hv=>by
  obtain ⟨v1,v2⟩:=h.inr v hv;rw [X1];refine ⟨v.order.toNat,ZM.2 Za,?_⟩;obtain ⟨o,d⟩:=v
  have e:((o.toNat:Nat):Int)=o:=by grind
  simp_all)
 have h2:((List.range 10).flatMap fun i:Nat=> [(⟨(i:Int),false⟩:Vis),⟨(i:Int),true⟩]).length=20:=rfl;omega
theorem SqOk.vis {x:Inst} {l:List Vis} (h:SqOk x l) {v:Vis} (hv:v∈l):Ak x v=true:=by
 obtain ⟨v1,v2⟩:=h.inr v hv;obtain ⟨i,hi⟩: ∃i:Nat,v.order=(i:Int):=⟨v.order.toNat,Za⟩;have ho:=h.own (i:=i) ⟨v,hv,hi⟩
 have hpl:0<=(Xm x v).place:=by
  unfold Xm;rw [hi,XK]
  cases hd:v.drp with
  | true=>exact ho.isD (by rw [<- hi,<- hd];exact hv)
  | false=>exact ho.isP (by rw [<- hi,<- hd];exact hv)
 simp [Ak,Ny,v1,v2,hpl]
theorem vC {x:Inst} {r:Rte} (h:SqOk x r.visits) (hn:x.orders.length<=10) (ht:0<=r.typ/\r.typ<(x.types.length:Int)):Uu x r=(decide (0<=r.start)&&decide (r.start<=4096)):=by
 have h1:r.visits.all (Ak x)=true:=Zz.2 fun v hv=>h.vis hv;have h2:=h.len hn
 grind [Uu]
theorem SV {n:Net} (h:netOk n):netR n/\ ∀a∈n.arcs,0<=a.miles/\a.miles<=10000:=by
 obtain ⟨⟨⟨h1,_⟩,h2⟩,h3⟩:=h
 have ha: ∀a∈n.arcs,qT a/\0<=a.miles/\a.miles<=10000:=fun a hm=>by
  obtain ⟨i,hi,rfl⟩:=ZS.1 hm;have:=h3 i hi;unfold ML at this;rw [Zi hi] at this;obtain ⟨⟨⟨⟨⟨_,g1⟩,_⟩,g2⟩,g3⟩,g4⟩:=this;refine ⟨⟨g2,g3,fun p hp=> ?_⟩,g1.2.2.1,g1.2.2.2.1⟩;obtain ⟨j,hj,rfl⟩:=ZS.1 hp
  simp_all [Ad,Zi,Mp,rng]
 exact ⟨⟨Za,Za,fun a hm=>(ha a hm).1⟩,fun a hm=>(ha a hm).2⟩
theorem WY {x:Inst} (hx:InstOk x) {i:Nat} (hi:i<x.types.length):(0<=(nth x.types i).opn/\(nth x.types i).opn<=(nth x.types i).cls/\(nth x.types i).cls<=4096)/\(1<=(nth x.types i).drive/\(nth x.types i).drive<=4096)/\(0<=(nth x.types i).rest/\(nth x.types i).rest<=4096) /\
  (0<=(nth x.types i).fixed/\(nth x.types i).fixed<=100000/\0<=(nth x.types i).perMile/\(nth x.types i).perMile<=100/\0<=(nth x.types i).perTick/\(nth x.types i).perTick<=100)/\(0<=(nth x.types i).skills/\(nth x.types i).skills<=1073741823):=by
 have ht:=hx.types.2 i hi
 simp_all [Ux,rng]
theorem Ah {x:Inst} {r:Rte} (hx:InstOk x) (ht:0<=r.typ/\r.typ<(x.types.length:Int)) (h:SqOk x r.visits):TrpOk x (Zx x r) (ZI x r.visits):=by
 have hti:r.typ.toNat<x.types.length:=Za
 obtain ⟨t1,t2,t3,_⟩:=WY hx hti;obtain ⟨n1,n2⟩:=SV hx.net;refine ⟨n1,n2,t1,t2,t3,fun s hs=> ?_,by rw [Ym];exact h.len hx.orders.1⟩;obtain ⟨v,hv,rfl⟩:=Xw.1 hs;obtain ⟨v1,v2⟩:=h.inr v hv
 have hi:v.order.toNat<x.orders.length:=Za
 have ho:=hx.orders.2 _ hi;have hvis:=h.vis hv;have hp:=ho.pstp;have hd:=ho.dstp;simp only [stpOk,Zq] at hp hd;simp only [Ak,Zw,Zq] at hvis;have h3:=hvis.2;unfold Xm at h3 ⊢
 grind
theorem Oh {x t sp} (h:TrpOk x t sp): ∀(bs:List Bool) (k:Nat) (L:Lab),k+bs.length=sp.length+1->LabR k L->(Xb x t sp k L bs).2=0->LabR (sp.length+1) (Xb x t sp k L bs).1/\(bs≠ []->(Xb x t sp k L bs).1.she.fin=(Xb x t sp k L bs).1.ready)
 | [],k,L,hk,hl,h0=>by
  simp at hk;subst hk;exact ⟨hl,fun h=>absurd rfl h⟩
 | b::bs,k,L,hk,hl,h0=>by
  simp at hk;rw [Xb] at h0 ⊢
  split at h0
  ·rename_i c;rw [if_pos c];obtain ⟨h1,h2⟩:=Oh h bs (k+1) _ Za (LU h Za hl c) h0;refine ⟨h1,fun _=> ?_⟩
   cases bs with
   | nil =>
    simp at hk;subst hk;exact NS (x:=x) (t:=t) (sp:=sp) (y:=L) (b:=b) (by rw [Xr,if_pos c];rfl)
   | cons b2 bs=>grind
  omega
theorem FA {x t sp} {st:Int} {r:List Bool} (h:TrpOk x t sp) (hs:0<=st/\st<=4096) (hr:r.length<=sp.length+1) (h0:(Yi x t sp st r).2=0):(0<=(Yi x t sp st r).1.fin/\(Yi x t sp st r).1.fin<=8192)/\(0<=(Yi x t sp st r).1.miles/\(Yi x t sp st r).1.miles<=210000):=by
 have hL0:LabR 0 (labF t st):=⟨by have:=h.opn;grind [labF],by simp [labF],by simp [labF,zShe]⟩;have hl:=h.len
 have key: ∀bs∈XD r (sp.length+1),(Xb x t sp 0 (labF t st) bs).2=0->(0<=(Xb x t sp 0 (labF t st) bs).1.she.fin/\(Xb x t sp 0 (labF t st) bs).1.she.fin<=8192)/\(0<=(Xb x t sp 0 (labF t st) bs).1.she.miles/\(Xb x t sp 0 (labF t st) bs).1.she.miles<=210000):=fun bs hbs he=>by
  obtain ⟨q,hq,rfl⟩:=Xw.1 hbs;have hql:=bestF_len.fromB_len _ _ hq;simp at hql
  have hne:r++q≠ []:=fun e=>by
   simp_all
  obtain ⟨g1,g2⟩:=Oh h (r++q) 0 _ (by simp;omega) hL0 he;rw [g2 hne];have:=g1.rdy;have:=g1.mil;omega
 unfold Yi at h0 ⊢
 cases hf:W9 Wo none ((XD r (sp.length+1)).filterMap (We (Xr x t sp) 0 (labF t st))) with
 | some L =>
  simp only;have:=bestF_len.fmL_mem _ _ hf
  grind [YF]
 | none =>
  grind [zShe]
theorem TZ (x:Inst) (r:Rte) (ho:x.orders.length<=1048576) (ht:x.types.length<=1048576) (hl:r.visits.length<=1048576) (hbad:Uu x r=false\/r.visits.length+1<r.rests.length) :
  PT 208 [.p (Zu x),.p (WM r)] [.p (FG zShe),.p (.int .i64 2)]:=by
 refine Zg [] Tryz.func208 rfl kS ?_;simp (disch:=omega) only [Tryz.f208,go_sem,seval];refine (Gq x r ho ht hl).use (Zd ?_);refine gF ?_ ?_<;>intro h1<;>simp (disch:=omega) only [Sh.out h1,go_sem,seval,↓reduceIte]
 ·exact we (by simp (disch:=omega) only [zShe,Zk,go_sem,seval])
 ·have h2:r.visits.length+1<r.rests.length:=hbad.resolve_left (by grind);refine cD ?_ ?_<;>intro h3<;>simp (disch:=omega) only [Sh.out h3,go_sem,seval,↓reduceIte]
  ·exact we (by simp (disch:=omega) only [zShe,Zk,go_sem,seval])
  ·omega
theorem sB (x:Inst) (r:Rte) (hx:InstOk x) (hl:r.visits.length<=1048576):PC 205 [.p (Zu x),.p (WM r)] (.int .i64 (Xf x r.visits)):=by
 have hf:=XO hx;have hr:=hx.rules;obtain ⟨h1,h2⟩:=VN.1 hr
 have ha:x.apart.length<=1048576:=by
  have h3:=(VN.1 h1).1
  grind [Hk]
 have hb:x.before.length<=1048576:=by
  have h3:=(VN.1 h2).1
  grind [Hk]
 have:=Rm x r (by have:=hf.len;omega) hl ha hb hf.plc
 grind [vH]
def Ci (x:Inst) (r:Rte):V:= .tup [.p (FG (Yc x r)),.p (EB (Wf x r)),.p (.int .i64 (Xo x r))]
theorem YM {x:Inst} {r:Rte} {e:Int} (h:Xo x r=e) (h0:e≠0):Ci x r= .tup [.p (FG zShe),.p (EB zSco),.p (.int .i64 e)]:=by
 simp_all [Ci,Yc,Wf]
theorem Cj (x:Inst) (r:Rte) (hx:InstOk x) (hl:r.visits.length<=1048576) (hrl:r.rests.length<=1048576):ACalls Tryz.prog 191 [.p (Zu x),.p (WM r)] [] fun y H'=>y=Ci x r/\H'= []:=by
 have hld:=QI hx;have htl:=hld.typ;have hol:=hld.ord;have chk:=sB x r hx hl
 have htb:x.types.length<=6:=by have:=hx.types.1;simp only [rng,Zq] at this;omega
 refine Zg [] Tryz.func191 rfl ZbQ ?_;simp (disch:=omega) only [Tryz.f191,go_sem,seval];refine gF ?_ ?_<;>intro h1<;>simp (disch:=omega) only [Sh.out h1,go_sem,seval,↓reduceIte]
 ·have e:XI x r=2:=by rw [XI,if_pos Za]
  rw [YM (e:=2) (by rw [Xo,e];rfl) Za];exact we (by simp (disch:=omega) only [zShe,zSco,Zk,go_sem,seval])
 ·refine cD ?_ ?_<;>intro h2<;>simp (disch:=omega) only [Sh.out h2,go_sem,seval,↓reduceIte]
  ·have e:XI x r=2:=by simp_all [XI]
   rw [YM (e:=2) (by rw [Xo,e];rfl) Za];exact we (by simp (disch:=omega) only [zShe,zSco,Zk,go_sem,seval])
  ·have hty:0<=r.typ/\r.typ<(x.types.length:Int):=Za
   have hti:r.typ.toNat<x.types.length:=Za
   refine (chk).use (Zd ?_);refine cD ?_ ?_<;>intro h3<;>simp (disch:=omega) only [Sh.out h3,go_sem,seval,↓reduceIte]
   ·have e:XI x r=Xf x r.visits:=by simp_all [XI]
    rw [YM (e:=Xf x r.visits) (by simp_all [Xo]) h3];exact we (by simp (disch:=omega) only [zShe,zSco,Zk,go_sem,seval])
   ·have h3':=Z7.1 h3;have hsq:=VW h3'
    have hvn:0<r.visits.length:=by
     have:=hsq.ne
     grind
    have hok:=Ah hx hty hsq;have hnum:=WY hx hti
    have hr0:XI x r=if (r.visits.any fun v=> !Yg (Zx x r) (nth x.orders v.order.toNat).skills)=true then 18 else if VA x (Zx x r).cap r.visits=false then 17 else if ¬(0<=r.start/\r.start<=4096/\r.rests.length<=r.visits.length+1) then 2 else 0:=by
     rw [XI,if_neg (fun h=>h hty),if_neg h3]
    have htyp:nth x.types r.typ.toNat=Zx x r:=rfl;rw [htyp] at hnum;have hf17:=jK x r hx hl hty h3' chk;have hposs:=vC hsq hol hty
    have hsk: ∀k,k<r.visits.length->(nth r.visits k).order.toNat<x.orders.length/\0<=(nth x.orders (nth r.visits k).order.toNat).skills/\(nth x.orders (nth r.visits k).order.toNat).skills<=1073741823:=fun k hk=>by
     obtain ⟨v1,v2⟩:=hsq.inr _ (Zt hk)
     have hi:(nth r.visits k).order.toNat<x.orders.length:=Za
     exact ⟨hi,(hx.orders.2 _ hi).skills⟩
    refine Zl [2,3,4,5] (fun k:Nat=> [(8,.p (.int .i64 k))]) (fun _=> [Ze x,Xy r,.cells [.p (.bool false),.p (.int .i64 0),.p (.list true []),.p (.int .i64 0),.p (.int .i64 0)],Dd 0 0 0 0])
     (fun k=>k<=r.visits.length/\ ∀j,j<k->Yg (Zx x r) (nth x.orders (nth r.visits j).order.toNat).skills=true) (fun k=>r.visits.length-k) 0 Zb (Weak.mk ?_) ?_
    ·simp (disch:=omega) only [Ze,Xy,Dd,go_sem,seval]
    ·rintro k ⟨hk,hno⟩;simp (disch:=omega) only [Ze,Xy,Dd,go_sem,seval];refine cD ?_ ?_<;>intro h4<;>simp (disch:=omega) only [Sh.out h4,go_sem,seval,↓reduceIte]
     ·have hk2:k<r.visits.length:=Za
      obtain ⟨s1,s2,s3⟩:=hsk k hk2;obtain ⟨v1,v2⟩:=hsq.inr _ (Zt hk2);refine Xd ?_;simp (disch:=omega) only [htyp,go_sem,seval];refine Zo (fK (Zx x r) (nth x.orders (nth r.visits k).order.toNat).skills Za Za) (Zd ?_);refine Z1 ?_ ?_<;>intro h5
      ·have e:XI x r=18:=by
        rw [hr0,if_pos]
        grind [Zt]
       rw [YM (e:=18) (by rw [Xo,e];rfl) Za];exact we (by simp (disch:=omega) only [zShe,zSco,Zk,go_sem,seval])
      ·exact ⟨k+1,⟨Za,Zr.2 ⟨hno,by grind⟩⟩,Za,wk⟩
     ·have hkl:k=r.visits.length:=Za
      subst hkl
      have hall: ¬(r.visits.any fun v=> !Yg (Zx x r) (nth x.orders v.order.toNat).skills)=true:=fun h=>by
       obtain ⟨v,hv,hb⟩:=Wk.1 h;obtain ⟨j,hj,rfl⟩:=ZS.1 hv
       grind [Zi]
      rw [if_neg hall] at hr0;refine (hf17).use (Zd ?_)
      cases hlb:VA x (Zx x r).cap r.visits with
      | false =>
       have e:XI x r=17:=by grind
       simp only [Y6,Ye];refine Zd ?_;rw [YM (e:=17) (by rw [Xo,e];rfl) Za];exact we (by simp (disch:=omega) only [zShe,zSco,Zk,go_sem,seval])
      | true =>
       rw [hlb,if_neg Zb] at hr0;simp only [if_true];refine Zd ?_
       by_cases h6:0<=r.start/\r.start<=4096/\r.rests.length<=r.visits.length+1
       ·have e:XI x r=0:=Za
        have hp:Uu x r=true:=by grind
        have ee:Xo x r=(Xn x r).2:=by rw [Xo,if_pos e]
        have cb:=gN x r hok Za htl hvn hp h6.2.2;have hbr:=FA hok ⟨h6.1,h6.2.1⟩ (by rw [Ym];exact h6.2.2);have hbr:(Xn x r).2=0->_:=hbr
        change (Xn x r).2=0->(0<=(Xn x r).1.fin/\(Xn x r).1.fin<=8192)/\(0<=(Xn x r).1.miles/\(Xn x r).1.miles<=210000) at hbr
        have es:Yc x r=if (Xn x r).2=0 then (Xn x r).1 else zShe:=by rw [Yc,ee]
        have ep:Wf x r=if (Xn x r).2=0 then Db x r (Xn x r).1 else zSco:=by rw [Wf,ee]
        unfold Ci;rw [ee,es,ep];clear ee es ep
        generalize Xn x r=q at *
        obtain ⟨sh,eb⟩:=q;simp only at cb hbr ⊢;refine Yo cb (Zd ?_);refine cD ?_ ?_<;>intro h7<;>simp (disch:=omega) only [Sh.out h7,go_sem,seval,↓reduceIte]
        ·exact we (by simp (disch:=omega) only [zShe,zSco,Zk,go_sem,seval])
        ·have h7':=Z7.1 h7
         try rw [if_pos h7',if_pos h7']
         subst h7';obtain ⟨g1,g2⟩:=hbr rfl;refine ZE 5 mixed Zf Zf (Zd ?_);refine Zo (dC x r sh hty Za htl hl hsq.inr hnum.2.2.2.1 Za Za Za) (Zd ?_);exact we
       ·have e:XI x r=2:=Za
        rw [YM (e:=2) (by rw [Xo,e];rfl) Za];refine Yo (TZ x r Za htl hl ?_) ?_
        ·grind
        ·refine Zd ?_;exact we (by simp (disch:=omega) only [zShe,zSco,Zk,go_sem,seval])
theorem eC (x:Inst) (r:Rte) (hx:InstOk x) (hl:r.visits.length<=1048576) (hrl:r.rests.length<=1048576):PC 148 [.p (Zu x),.p (WM r)] (.int .i64 (Xo x r)):=by
 have ce:=Cj x r hx hl hrl;refine Zc Tryz.func148 rfl Zbq ?_;simp (disch:=omega) only [Tryz.f148,go_sem,seval];unfold Ci at ce;refine ON ce ?_;simp (disch:=omega) only [go_sem,seval,↓reduceIte]
theorem Zd3 {p q:Pt} {t:Int} (h1:p.t<=t) (h2:t<q.t) (hp:p.t<=p.a) (hq:q.t<=q.a):t<=Ht p q t:=by
 unfold Ht
 have hw:0<q.t-p.t:=Za
 have key:(t-p.a)*(q.t-p.t)<=(t-p.t)*(q.a-p.a)+q.t-p.t-1:=by
  have e:(t-p.t)*(q.a-p.a)-(t-p.a)*(q.t-p.t)=(t-p.t)*(q.a-q.t)+(p.a-p.t)*(q.t-t):=by
   grind
  have h3:0<=(t-p.t)*(q.a-q.t):=UL Za Za;have h4:0<=(p.a-p.t)*(q.t-t):=UL Za Za;omega
 have:=Int.le_ediv_of_mul_le hw key;omega
theorem qW {l:List Pt} {t:Int} (hl:Vg l):t<=JS l t:=by
 obtain ⟨⟨hl1,hl2⟩,hpt⟩:=hl;unfold JS
 split
 ·rename_i i hi;have hm:=Ja hi;have hs:=J9 hi;simp at hm;simp only [Ji,Zw,Zq] at hs;obtain ⟨⟨p1,p2,p3,p4⟩,_⟩:=hpt i Za;obtain ⟨⟨q1,q2,q3,q4⟩,q5⟩:=hpt (i+1) Za
  simp_all [Zd3]
 ·obtain ⟨⟨p1,p2,p3,p4⟩,_⟩:=hpt 0 Za;obtain ⟨⟨q1,q2,q3,q4⟩,_⟩:=hpt (l.length-1) Za;omega
theorem kB {n:Net} {pr f t τ:Int} (hn:netR n) (h:(W8 n pr f t τ).2.2=0):τ<=(W8 n pr f t τ).1:=by
 unfold W8 at h ⊢
 split at h
 ·simp at h
 ·rename_i c1;rw [if_neg c1]
  split at h
  ·grind
  ·rename_i c2;rw [if_neg c2]
   split at h
   ·rename_i c3;rw [if_pos c3];have hA:=Ar c3;have h1:=qW (t:=τ) (hn.2.2 _ hA).1;have h2:=JH (t:=τ) (fun p hp=>((hn.2.2 _ hA).2.2 p hp).2.2) _ (ZD _)
    grind [I4]
   ·simp at h
theorem HB {x t sp} {st:Int} {r:List Bool} (hr:r.length<=sp.length+1) (h:(Yi x t sp st r).2=0): ∃bs:List Bool,bs.length=sp.length+1/\(Xb x t sp 0 (labF t st) bs).2=0/\(Yi x t sp st r).1=(Xb x t sp 0 (labF t st) bs).1.she:=by
 unfold Yi at h ⊢
 cases hf:W9 Wo none ((XD r (sp.length+1)).filterMap (We (Xr x t sp) 0 (labF t st))) with
 | none =>
  rw [hf] at h;simp only at h ⊢;exfalso
  have hm:YY r (sp.length+1)∈XD r (sp.length+1):=by
   grind [XD,YY,fromB_next]
  have h2:We (Xr x t sp) 0 (labF t st) (YY r (sp.length+1))=some (Xb x t sp 0 (labF t st) (YY r (sp.length+1))).1:=by rw [YF,if_pos h]
  have h3:(Xb x t sp 0 (labF t st) (YY r (sp.length+1))).1∈(XD r (sp.length+1)).filterMap (We (Xr x t sp) 0 (labF t st)):=Qm.2 ⟨_,hm,h2⟩;generalize (XD r (sp.length+1)).filterMap (We (Xr x t sp) 0 (labF t st))=l at hf h3
  cases l with
  | nil=>simp at h3
  | cons a l =>
   rw [W9] at hf;obtain ⟨z,e,_⟩:=VJ Wo l a
   grind
 | some L =>
  simp only;have hm:=bestF_len.fmL_mem _ _ hf;obtain ⟨bs,hbs,hrun⟩:=Qm.1 hm;rw [YF] at hrun
  split at hrun
  ·rename_i h5;simp at hrun;subst hrun;obtain ⟨q,hq,rfl⟩:=Xw.1 hbs;have hql:=bestF_len.fromB_len _ _ hq
   grind
  ·cases hrun
structure Sr where
 rdy:Int
 drv:Int
 deriving Inhabited,DecidableEq
def US (l:List Sr) (s:Sr):List Sr:=if s∈l then l else l++ [s]
def VU (t:Typ) (l:List Sr) (d v:Int):List Sr:=US (US l ⟨d,v⟩) ⟨d+t.rest,0⟩
def JM (x:Inst) (t:Typ) (from':Int) (stop:Stp) (out:List Sr) (a:Sr):List Sr :=
 if ¬(W8 x.net t.prof from' stop.place a.rdy).2.2=0\/t.drive<a.drv+(W8 x.net t.prof from' stop.place a.rdy).1-a.rdy then out
 else if stop.cls<max (W8 x.net t.prof from' stop.place a.rdy).1 stop.opn then out
 else VU t out (max (W8 x.net t.prof from' stop.place a.rdy).1 stop.opn+stop.serv) (a.drv+(W8 x.net t.prof from' stop.place a.rdy).1-a.rdy)
def Ea (x:Inst) (t:Typ) (from':Int) (st:List Sr) (stop:Stp):List Sr:=st.foldl (JM x t from' stop) []
theorem bD {l:List Sr} {s a:Sr} :a∈US l s↔a∈l\/a=s:=by
 grind [US]
theorem Vu {t:Typ} {l:List Sr} {d v:Int} {a:Sr} :a∈VU t l d v↔a∈l\/a=⟨d,v⟩\/a=⟨d+t.rest,0⟩:=by
 simp [VU,bD,or_assoc]
theorem Sf {n:Nat} (h:n<10):dec n= [UInt8.ofNat (48+n)]:=by rw [dec,dif_pos h]
theorem sH {n:Nat} (h:10<=n) (h2:n<100):dec n= [UInt8.ofNat (48+n / 10),UInt8.ofNat (48+n%10)]:=by
 rw [dec,dif_neg Za,Sf Za];rfl
theorem MN {s:List UInt8} {k k':IntKind} {a b:Int} (h:0<=a/\a<=b/\b<=(s.length:Int)):I6 (some .string) s (.p (.int k a)) (.p (.int k' b))=some (.p (.str ((s.take b.toNat).drop a.toNat))):=by
 simp_all [I6]
def digT : List UInt8:=(List.range 36).map fun i=>UInt8.ofNat (if i<10 then 48+i else 87+i)
def smalT : List UInt8:=(List.range 100).flatMap fun i=> [UInt8.ofNat (48+i / 10),UInt8.ofNat (48+i%10)]
theorem sI : ∀n,n<10->(digT.take (n+1)).drop n= [UInt8.ofNat (48+n)]:=by decide
theorem oP : ∀n,n<100->(smalT.take (2*n+2)).drop (2*n)= [UInt8.ofNat (48+n / 10),UInt8.ofNat (48+n%10)]:=by decide+kernel
theorem vW (n:Nat) (hn:n<100):PC 298 [.p (.int .i64 (n:Int))] (.str (dec n)):=by
 refine Zc Tryz.func298 rfl Zds ?_;simp (disch:=omega) only [Tryz.f298,go_sem,seval];refine cD ?_ ?_<;>intro h<;>simp (disch:=omega) only [Sh.out h,go_sem,seval]
 ·rw [Sf Za,MN (by simp;omega)]
  have e1:((n:Int)+1).toNat=n+1:=Za
  have e2:((n:Int)).toNat=n:=Za
  rw [e1,e2];refine (ZQ (fun z=>BM (some (V.p (PV.str z))) _) (sI n Za)).mpr ?_;simp (disch:=omega) only [go_sem,seval]
 ·rw [sH Za hn,MN (by simp;omega)]
  have e1:((n:Int)*2+2).toNat=2*n+2:=Za
  have e2:((n:Int)*2).toNat=2*n:=Za
  rw [e1,e2];refine (ZQ (fun z=>BM (some (V.p (PV.str z))) _) (oP n Za)).mpr ?_;simp (disch:=omega) only [go_sem,seval]
theorem jU (n:Nat) (hn:n<100):PC 296 [.p (.int .i64 (n:Int)),.p (.int .i64 10)] (.str (dec n)):=by
 refine Zc Tryz.func296 rfl Zdq ?_
 have h0:(0:Int)<=(n:Int):=Za
 have h1:(n:Int)<100:=Za
 simp (disch:=omega) only [Tryz.f296,h0,h1,go_sem,seval];refine (vW n hn).use ?_;simp (disch:=omega) only [go_sem,seval]
theorem tM (n:Nat) (hn:n<100):PC 292 [.p (.int .i64 (n:Int))] (.str (dec n)):=by
 refine Zc Tryz.func292 rfl Zdm ?_;simp (disch:=omega) only [Tryz.f292,go_sem,seval];refine (jU n hn).use ?_;simp (disch:=omega) only [go_sem,seval]
theorem Zdt (n:Nat) (hn:n<100):PC 290 [.p (.int .i64 (n:Int))] (.str (dec n)):=by
 refine Zc Tryz.func290 rfl Zdk ?_;simp (disch:=omega) only [Tryz.f290,go_sem,seval];refine (tM n hn).use ?_;simp (disch:=omega) only [go_sem,seval]
theorem OR (n a b:Int):PC 272 [.p (.int .i64 n),.p (.int .i64 a),.p (.int .i64 b)] (.bool (decide (a<=n)&&decide (n<=b))):=by
 refine Zc Tryz.func272 rfl Zc2 ?_;simp (disch:=omega) only [Tryz.f272,go_sem,seval]
 repeat' (first | (refine gT ?_ ?_<;>intro hq<;>simp (disch:=omega) only [Sh.out hq,go_sem,seval,↓reduceIte]) | (refine Qg (fun hq=> ?_) (fun hq=> ?_)<;>(try simp only [Zq,Yd,Z7] at hq)<;>simp (disch:=omega) only [Sh.out hq,go_sem,seval]) | (refine QF (fun hq=> ?_) (fun hq=> ?_)<;>(try simp only [Zq,Yd,Z7] at hq)<;>simp (disch:=omega) only [Sh.out hq,go_sem,seval]))
 all_goals (simp;first | done | omega)
theorem mP (l:List Pt) (c:Bool) (hl:Vg l):PC 285 [.p (.list c (l.map G4))] (.list true []):=by
 obtain ⟨⟨hl1,hl2⟩,hpt⟩:=hl;refine Zc Tryz.func285 rfl Zdf ?_
 have e1: ¬(l.length:Int)=0:=Za
 have e2: ¬(16:Int)<(l.length:Int):=Za
 simp (disch:=omega) only [Tryz.f285,e1,e2,go_sem,seval];refine Zl [0,19,20] (fun k:Nat=> [(3,.p (.list true [])),(21,.p (.int .i64 k))]) (fun _=> []) (fun k=>k<=l.length) (fun k=>l.length-k) 0 Zb (Weak.mk ?_) ?_
 ·simp (disch:=omega) only [go_sem,seval,↓reduceIte]
 ·intro k hk;refine Zd ?_;refine cD ?_ ?_<;>intro h<;>simp (disch:=omega) only [Sh.out h,go_sem,seval,↓reduceIte]
  ·have hk2:k<l.length:=Za
   obtain ⟨⟨p1,p2,p3,p4⟩,q⟩:=hpt k hk2;refine (Zdt k Za).use (Zd ?_);refine (OR (nth l k).t 0 4096).use (Zd ?_);simp (disch:=omega) only [p1,p2,go_sem,seval];refine gF ?_ ?_<;>intro h3<;>simp (disch:=omega) only [Sh.out h3,go_sem,seval,↓reduceIte]
   ·omega
   ·refine cD ?_ ?_<;>intro h4<;>simp (disch:=omega) only [Sh.out h4,go_sem,seval,↓reduceIte]
    ·omega
    ·refine Xd (Zd ?_);refine gT ?_ ?_<;>intro h5<;>simp (disch:=omega) only [Sh.out h5,go_sem,seval,↓reduceIte]
     ·obtain ⟨r1,r2⟩:=q Za;refine gF ?_ ?_<;>intro h6<;>simp (disch:=omega) only [Sh.out h6,go_sem,seval,↓reduceIte]
      ·omega
      ·refine cD ?_ ?_<;>intro h7<;>simp (disch:=omega) only [Sh.out h7,go_sem,seval,↓reduceIte]
       ·omega
       ·exact ⟨k+1,Za,Za,wk⟩
     ·exact ⟨k+1,Za,Za,wk⟩
theorem Sa (p:Pt) (t:Int) (h:0<=p.t/\p.t<=4096) (ht:0<=t/\t<=1073741824):PC 287 [.p (G4 p),.p (.int .i64 t)] (.int .i64 (p.t-t)):=by
 refine Zc Tryz.func287 rfl Zdh ?_;simp (disch:=omega) only [Tryz.f287,go_sem,seval,↓reduceIte]
theorem vL (l:List Pt) (c:Bool) (hl:Vg l):PC 273 [.p (.list c (l.map G4))] (.bool true):=by
 refine Zc Tryz.func273 rfl Zc3 ?_;simp (disch:=omega) only [Tryz.f273,go_sem,seval];refine (mP l c hl).use ?_;simp (disch:=omega) only [go_sem,seval]
structure PosT (l:List Pt) (t:Int) (i:Nat):Prop where
 le:i<=l.length
 lo: ∀j,j<i->(nth l j).t<t
 hi: ∀j,i<=j->j<l.length->t<=(nth l j).t
theorem Zis (l:List Pt) (c:Bool) (t:Int) (i:Nat) (hl:Vg l) (ht:0<=t/\t<=1073741824) (hi:PosT l t i):PT 286 [.p (.list c (l.map G4)),.p (.int .i64 t),.fn (.func 287) [] []] [.p (.int .i64 (i:Int)),.p (.bool (decide (i<l.length)&&decide ((nth l i).t=t)))]:=by
 obtain ⟨⟨hl1,hl2⟩,hpt⟩:=hl;obtain ⟨hi1,hi2,hi3⟩:=hi;refine Zg [] Tryz.func286 rfl Zdg ?_;simp (disch:=omega) only [Tryz.f286,go_sem,seval];refine Zl [0,1,2,8] (fun q:Nat×Nat=> [(9,.p (.int .i64 q.1)),(10,.p (.int .i64 q.2))]) (fun _=> []) (fun q=>q.1<=i/\i<=q.2/\q.2<=l.length) (fun q=>q.2-q.1) (0,l.length) (by simp;omega) (Weak.mk ?_) ?_
 ·simp (disch:=omega) only [go_sem,seval,↓reduceIte]
 ·rintro ⟨a,b⟩ ⟨h1,h2,h3⟩;simp only at h1 h2 h3;refine Zd ?_;refine cD ?_ ?_<;>intro h<;>simp (disch:=omega) only [Sh.out h,go_sem,seval,↓reduceIte]
  ·have hm:(a+b) / 2<l.length:=Za
   obtain ⟨⟨p1,p2,p3,p4⟩,q⟩:=hpt _ hm
   have hs:((a:Int)+(b:Int)).fdiv (2^min 1 64)=(((a+b) / 2:Nat):Int):=by
    grind
   have em:((((a+b) / 2:Nat)):Int).toNat=(a+b) / 2:=Za
   have hnb:((a+b) / 2<i)↔(nth l ((a+b) / 2)).t-t<0:=by
    grind
   rw [hs];refine Zd ?_;refine (Sa (nth l ((a+b) / 2)) t ⟨p1,p2⟩ ht).use (Zd ?_);refine cD ?_ ?_<;>intro h4<;>simp (disch:=omega) only [Sh.out h4,go_sem,seval,↓reduceIte]
   ·exact ⟨((a+b) / 2+1,b),⟨Za,h2,h3⟩,Za,wk⟩
   ·exact ⟨(a,(a+b) / 2),⟨h1,Za,Za⟩,Za,wk⟩
  ·have:a=i:=Za
   subst this;refine gT ?_ ?_<;>intro h4<;>simp (disch:=omega) only [Sh.out h4,go_sem,seval,↓reduceIte]
   ·have hm:a<l.length:=Za
    obtain ⟨⟨p1,p2,p3,p4⟩,q⟩:=hpt _ hm;refine (Sa (nth l a) t ⟨p1,p2⟩ ht).use (Zd ?_);have e5:((nth l a).t-t=0)=((nth l a).t=t):=propext Za;exact we (by simp (disch:=omega) only [e5,hm,go_sem,seval])
   ·have hm: ¬a<l.length:=Za
    exact we (by simp (disch:=omega) only [hm,go_sem,seval])
theorem C4 {l:List Pt} (hl:Vg l) {k:Nat} (hk:k<l.length): ∀j,j<k->(nth l j).t<(nth l k).t:=by
 obtain ⟨_,hpt⟩:=hl
 induction k with
 | zero=>omega
 | succ k ih =>
  intro j hj;obtain ⟨_,q⟩:=hpt (k+1) hk
  grind
theorem vB {l:List Pt} (hl:Vg l) (t:Int): ∃i,PosT l t i:=by
 have: ∀n,n<=l.length-> ∃i,i<=n/\(∀j,j<i->(nth l j).t<t)/\(i<n->t<=(nth l i).t):=by
  intro n
  induction n with
  | zero=>simp
  | succ n ih =>
   grind
 obtain ⟨i,h1,h2,h3⟩:=this l.length (ZD _);refine ⟨i,h1,h2,fun j hj hjl=> ?_⟩;rcases Nat.lt_or_eq_of_le hj with h | h
 ·have:=C4 hl hjl i h;omega
 grind
theorem qV {l:List Pt} {t:Int} {i:Nat} (hl:Vg l) (h:PosT l t i) (hi:i<l.length) (e:(nth l i).t=t):JS l t=(nth l i).a:=by
 by_cases g:i+1<l.length
 ·have m:=C4 hl g i Za;rw [I5 g (fun j hj=> ?_) (by grind [Ji]),Ht]
  ·rw [e,Int.sub_self,Int.zero_mul,Int.zero_add];rw [Int.ediv_eq_zero_of_lt Za Za];omega
  ·have:(nth l (j+1)).t<=t:=by
    rcases Nat.lt_or_eq_of_le (show j+1<=i by omega) with h1 | h1
    ·have:=h.lo _ h1;omega
    grind
   simp [Ji];omega
 ·have hi1:i=l.length-1:=Za
  rw [EH (fun j hj=> ?_)]
  ·split
   ·grind
   ·have:i=0:=by
     by_cases g2:i=0
     ·exact g2
     ·have:=h.lo 0 Za;omega
    grind
  ·have:(nth l (j+1)).t<=t:=by
    rcases Nat.lt_or_eq_of_le (show j+1<=i by omega) with h1 | h1
    ·have:=h.lo _ h1;omega
    grind
   simp [Ji];omega
theorem qY {l:List Pt} {t:Int} (hl:Vg l) (h:PosT l t 0) (e: ¬(nth l 0).t=t):JS l t=t+(nth l 0).a-(nth l 0).t:=by
 have h0:=h.hi 0 (ZD _) hl.1.1;rw [EH (fun j hj=> ?_),if_neg Za]
 have:t<(nth l j).t:=by
  by_cases g:j=0
  ·grind
  ·have:=C4 hl (show j<l.length by omega) 0 Za;omega
 simp [Ji];omega
theorem qX {l:List Pt} {t:Int} (h:PosT l t l.length) (hl:0<l.length):JS l t=t+(nth l (l.length-1)).a-(nth l (l.length-1)).t:=by
 rw [EH (fun j hj=> ?_),if_pos (h.lo 0 hl)];have:=h.lo (j+1) hj;simp [Ji];omega
theorem fZ {l:List Pt} {t:Int} {i:Nat} (h:PosT l t i) (h0:0<i) (hi:i<l.length) (e: ¬(nth l i).t=t):JS l t=Ht (nth l (i-1)) (nth l i) t:=by
 have e1:i-1+1=i:=Za
 have h1:=h.lo (i-1) Za;have h2:=h.hi i (ZD _) hi;have:=I5 (l:=l) (t:=t) (i:=i-1) Za (fun j hj=>by have:=h.lo (j+1) Za;simp [Ji];omega) (by grind [Ji]);rw [this,e1]
theorem Iz {p q:Pt} {t:Int} (h1:p.t<=t) (h2:t<q.t) (hp:0<=p.t) (hq:q.t<=4096) (ha:p.a<=q.a) (hpa:0<=p.a) (hqa:q.a<=8192) :
  IntKind.i64.wrap (p.a+IntKind.i64.wrap ((IntKind.i64.wrap (IntKind.i64.wrap (IntKind.i64.wrap ((t-p.t)*(q.a-p.a))+(q.t-p.t))-1)).tdiv (q.t-p.t)))=Ht p q t:=by
 have hm:=GL h1 h2 hp hq ha hpa hqa;unfold Ht;generalize hM:(t-p.t)*(q.a-p.a)=m at hm
 have hd:0<=(m+(q.t-p.t)-1) / (q.t-p.t)/\(m+(q.t-p.t)-1) / (q.t-p.t)<=m+(q.t-p.t)-1:=by
  refine ⟨Int.ediv_nonneg Za Za,Int.ediv_le_self _ Za⟩
 rw [IntWalk.i64_in m Za,IntWalk.i64_in (m+(q.t-p.t)) Za,IntWalk.i64_in (m+(q.t-p.t)-1) Za,EP Za,IntWalk.i64_in ((m+(q.t-p.t)-1) / (q.t-p.t)) Za,IntWalk.i64_in _ Za]
 congr 2
 omega
theorem P9 (l:List Pt) (c:Bool) (t:Int) (hl:Vg l) (ht:0<=t/\t<=1073741824):PC 274 [.p (.list c (l.map G4)),.p (.int .i64 t)] (.int .i64 (JS l t)):=by
 obtain ⟨i,hi⟩:=vB hl t;have hl':=hl;obtain ⟨⟨hl1,hl2⟩,hpt⟩:=hl';refine Zc Tryz.func274 rfl Zc4 ?_;simp (disch:=omega) only [Tryz.f274,go_sem,seval];refine Yo (Zis l c t i hl ht hi) (Zd ?_);obtain ⟨i1,i2,i3⟩:=id hi;refine cD ?_ ?_<;>intro h<;>simp (disch:=omega) only [Sh.out h,go_sem,seval,↓reduceIte]
 ·grind [qV]
 ·refine cD ?_ ?_<;>intro h0<;>simp (disch:=omega) only [Sh.out h0,go_sem,seval]
  ·have:i=0:=Za
   subst this;obtain ⟨p1,p2⟩:=hpt 0 Za;rw [qY hl hi (fun g=>h ⟨Za,g⟩)];refine Xd ?_;simp (disch:=omega) only [go_sem,seval,↓reduceIte]
  ·refine cD ?_ ?_<;>intro h1<;>simp (disch:=omega) only [Sh.out h1,go_sem,seval]
   ·have:i=l.length:=Za
    subst this;obtain ⟨p1,p2⟩:=hpt (l.length-1) Za;rw [qX hi Za]
    have e1:((l.length:Int)-1).toNat=l.length-1:=Za
    refine Xd ?_;simp (disch:=omega) only [go_sem,seval,↓reduceIte]
   ·have g1:i<l.length:=Za
    rw [fZ hi Za g1 (fun g=>h ⟨g1,g⟩)];have g2:=C4 hl g1 (i-1) Za;obtain ⟨p1,p2⟩:=hpt i g1;obtain ⟨p3,p4⟩:=hpt (i-1) Za
    have e1:((i:Int)-1).toNat=i-1:=Za
    have q1:=i2 (i-1) Za;have q2:=i3 i (ZD _) g1;have q3: ¬(nth l i).t=t:=fun g=>h ⟨g1,g⟩;have q4:=p2 Za;refine X6 [9,10,11] 12 mixed Zf Zf Zf Zb ?_;simp (disch:=omega) only [e1,go_sem,seval];refine bH 9 10 _ _ _ _ Zf (by refine Zd ?_;exact ⟨rfl,rfl⟩) (by refine Zd ?_;exact ⟨rfl,rfl⟩) ?_ ?_
    ·refine Xv 10 _ _ Zf (by refine Zd ?_;exact ⟨rfl,rfl⟩) (Xv 11 _ _ Zf (by refine Zd ?_;exact ⟨rfl,rfl⟩) (WE ?_));refine Zd ?_;refine Xd (Zd ?_);exact ZQ (fun z=>V.p (PV.int IntKind.i64 z)) (Iz Za Za Za Za Za Za Za)
    ·refine Xv 9 _ _ Zf (by refine Zd ?_;exact ⟨rfl,rfl⟩) (Xv 11 _ _ Zf (by refine Zd ?_;exact ⟨rfl,rfl⟩) (WE ?_));refine Zd ?_;refine Xd (Zd ?_);exact ZQ (fun z=>V.p (PV.int IntKind.i64 z)) (Iz Za Za Za Za Za Za Za)
theorem cH (l:List Pt) (c:Bool) (t:Int) (hl:Vg l) (ht:0<=t/\t<=1073741824):PC 254 [.p (.list c (l.map G4)),.p (.int .i64 t)] (.int .i64 (JS l t)):=by
 refine Zc Tryz.func254 rfl ZcK ?_;simp (disch:=omega) only [Tryz.f254,go_sem,seval];refine (OR t 0 1073741824).use (Zd ?_);simp (disch:=omega) only [ht,go_sem,seval];refine (vL l c hl).use (Zd ?_);refine (P9 l c t hl ht).use ?_;simp (disch:=omega) only [go_sem,seval]
theorem N3 (n:Net) (p:Int) (hn:n.places.length<=1048576):PC 219 [.p (Bg n),.p (.int .i64 p)] (.bool (K5 n p)):=by
 refine Zc Tryz.func219 rfl Zcd ?_;simp (disch:=omega) only [Tryz.f219,go_sem,seval];refine gT ?_ ?_<;>intro h<;>simp (disch:=omega) only [Sh.out h,go_sem,seval,↓reduceIte]
 ·simp [K5,h]
 ·simp [K5,h]
theorem wU (a:Arc):PC 253 [.p (V2 a)] (.agg [.int .i64 a.src,.int .i64 a.dst,.int .i64 a.prof]):=by
 refine Zc Tryz.func253 rfl ZcJ ?_;simp (disch:=omega) only [Tryz.f253,go_sem,seval,↓reduceIte]
theorem uP (a:Arc) (t:Int) (ha:qT a) (ht:0<=t/\t<=1073741824):PC 221 [.p (V2 a),.p (.int .i64 t)] (.int .i64 (I4 a t)):=by
 obtain ⟨h1,h2,h3⟩:=ha;have hr:=Ft h1 ht;have hs:=JH (t:=t) (fun p hp=>(h3 p hp).2.2);refine Zc Tryz.func221 rfl Zcf ?_;simp (disch:=omega) only [Tryz.f221,go_sem,seval];refine (cH a.travel a.travel_c t h1 ht).use (Zd ?_);refine Zl [1,13,14] (fun k:Nat=> [(5,.p (.int .i64 (JS a.travel t+Ky a.slow t k))),(15,.p (.int .i64 k))]) (fun _=> [Vk a]) (fun k=>k<=a.slow.length) (fun k=>a.slow.length-k) 0 Zb (Weak.mk ?_) ?_
 ·simp (disch:=omega) only [Vk,Ky,UM,go_sem,seval];simp
 ·intro k hk;have hsk:=hs k hk;simp (disch:=omega) only [Vk,go_sem,seval];refine cD ?_ ?_<;>intro h<;>simp (disch:=omega) only [Sh.out h,go_sem,seval,↓reduceIte]
  ·have hk2:k<a.slow.length:=Za
   have hp:=h3 _ (Z2 hk2);have hsn:=BT (t:=t) hk2;refine Z1 ?_ ?_<;>intro h4
   ·rw [if_pos h4] at hsn;exact ⟨k+1,Za,Za,Weak.mk (by simp (disch:=omega) only [hsn,Int.add_assoc,go_sem,seval])⟩
   ·rw [if_neg h4] at hsn;exact ⟨k+1,Za,Za,Weak.mk (by simp (disch:=omega) only [hsn,go_sem,seval])⟩
  grind [I4]
theorem uS (n:Net) (pr f t:Int) (hn:n.arcs.length<=1048576):PT 220 [.p (Bg n),.p (.int .i64 pr),.p (.int .i64 f),.p (.int .i64 t)] [.p (V2 (W7 n pr f t).1),.p (.bool (W7 n pr f t).2)]:=by
 refine Zg [] Tryz.func220 rfl Zce ?_;simp (disch:=omega) only [Tryz.f220,go_sem,seval];refine Zl [8,10,18,19] (fun k:Nat=> [(20,.p (.int .i64 k))]) (fun _=>Z4 n++ [Vk Uj,.cells [.p (.int .i64 f),.p (.int .i64 t),.p (.int .i64 pr)]]) (fun k=>k<=n.arcs.length/\ ∀j,j<k->VG pr f t (nth n.arcs j)=false) (fun k=>n.arcs.length-k) 0 Zb (Weak.mk ?_) ?_
 ·simp (disch:=omega) only [Z4,Vk,Uj,Zk,ZP,ZC,go_sem,seval]
 ·rintro k ⟨hk,hno⟩;simp (disch:=omega) only [Z4,Vk,Uj,Zk,ZP,ZC,go_sem,seval];refine cD ?_ ?_<;>intro h<;>simp (disch:=omega) only [Sh.out h,go_sem,seval,↓reduceIte]
  ·have hk2:k<n.arcs.length:=Za
   have nx:VG pr f t (nth n.arcs k)=false-> ∀j,j<k+1->VG pr f t (nth n.arcs j)=false:=fun h=>Zr.2 ⟨hno,h⟩;refine Xd (Zd ?_);refine Zo (wU (nth n.arcs k)) (Zd ?_);refine Z1 ?_ ?_<;>intro h1
   ·have e:=Ni hk2 hno (by simp [VG,h1]);obtain ⟨rfl,rfl,rfl⟩:=h1;rw [e];exact we
   ·have e2:VG pr f t (nth n.arcs k)=false:=by
     simp_all [VG]
    exact ⟨k+1,⟨Za,nx e2⟩,Za,wk⟩
  ·have hkn:k=n.arcs.length:=Za
   subst hkn;rw [Nj hno];exact we (by simp (disch:=omega) only [Uj,Zk,go_sem,seval])
theorem yK (n:Net) (pr f t τ:Int) (hn:netR n) (hτ:0<=τ/\τ<=1073741824):PT 198 [.p (Bg n),.p (.int .i64 pr),.p (.int .i64 f),.p (.int .i64 t),.p (.int .i64 τ)] [.p (.int .i64 (W8 n pr f t τ).1),.p (.int .i64 (W8 n pr f t τ).2.1),.p (.int .i64 (W8 n pr f t τ).2.2)]:=by
 refine Zg [] Tryz.func198 rfl ZbW ?_;simp (disch:=omega) only [Tryz.f198,go_sem,seval];refine (N3 n f hn.1).use (Zd ?_);refine gF ?_ ?_<;>intro h1<;>simp (disch:=omega) only [Sh.out h1,go_sem,seval,↓reduceIte]
 ·have e:W8 n pr f t τ=(0,0,11):=by grind [W8]
  rw [e];exact we
 ·simp only [XR] at h1;refine (N3 n t hn.1).use (Zd ?_);refine cD ?_ ?_<;>intro h2<;>simp (disch:=omega) only [Sh.out h2,go_sem,seval]
  ·have e:W8 n pr f t τ=(0,0,11):=by grind [W8]
   rw [e];exact we
  ·simp only [XR] at h2;refine cD ?_ ?_<;>intro h3<;>simp (disch:=omega) only [Sh.out h3,go_sem,seval,↓reduceIte]
   ·have e:W8 n pr f t τ=(τ,0,0):=by grind [W8]
    rw [e];exact we
   ·have cf:=uS n pr f t hn.2.1;have hm:= @Ar n pr f t
    have e0:W8 n pr f t τ=if (W7 n pr f t).2=true then (I4 (W7 n pr f t).1 τ,(W7 n pr f t).1.miles,0) else (0,0,12):=by grind [W8]
    rw [e0];generalize W7 n pr f t=A at cf hm ⊢;obtain ⟨a,b⟩:=A;simp only at cf hm ⊢;refine Yo cf (Zd ?_);refine cD ?_ ?_<;>intro h4<;>simp (disch:=omega) only [Sh.out h4,go_sem,seval]
    ·have hb:b=false:=by grind
     subst hb;exact we (by simp (disch:=omega) only [go_sem,seval,↓reduceIte])
    ·have hb:b=true:=by grind
     subst hb;refine Xd (Zd ?_);refine Zo (uP a τ (hn.2.2 a (hm rfl)) hτ) (Zd ?_);exact we
def Fz (s:Stp) (a:Int):Int×Int:=if max a s.opn>s.cls then (0,14) else (max a s.opn,0)
theorem R2 (s:Stp) (a:Int):PT 222 [.p (FI s),.p (.int .i64 a)] [.p (.int .i64 (Fz s a).1),.p (.int .i64 (Fz s a).2)]:=by
 refine Zg [] Tryz.func222 rfl Zcg ?_;simp (disch:=omega) only [Tryz.f222,go_sem,seval];refine cD ?_ ?_<;>intro h<;>simp (disch:=omega) only [Sh.out h,go_sem,seval]
 ·have e:Fz s a=(0,14):=by simp_all [Fz]
  rw [e];exact we
 ·have e:Fz s a=(max a s.opn,0):=by simp_all [Fz]
  rw [e];exact we
theorem mV (l:List Ord) (c:Bool) (p:Int) (hl:l.length<=1048576):PC 163 [.p (.list c (l.map Yj)),.p (.int .i64 p)] (.bool (decide (0<=p)&&decide (p<(l.length:Int)))):=by
 refine Zc Tryz.func163 rfl kQ ?_;simp (disch:=omega) only [Tryz.f163,go_sem,seval];refine gT ?_ ?_<;>intro h<;>simp (disch:=omega) only [Sh.out h,go_sem,seval,↓reduceIte]
 all_goals simp [h]
theorem S4 (x:Inst) (v:Vis) (ho:x.orders.length<=1048576) (hv:Ny x v=true) (hp:0<=(Xm x v).place):PT 168 [.p (.list x.orders_c (x.orders.map Yj)),.p (Z9 v)] [.p (FI (Xm x v)),.p (.int .i64 0)]:=by
 refine Zg [] Tryz.func168 rfl ZbE ?_;simp (disch:=omega) only [Tryz.f168,go_sem,seval];have hv':=hv;rw [Ny] at hv';have ct:=mV x.orders x.orders_c v.order ho;rw [hv'] at ct;refine ct.use ?_;simp only [Zw,Zq] at hv';obtain ⟨h1,h2⟩:=hv'
 have hi:v.order.toNat<x.orders.length:=Za
 refine Zd ?_;refine cD ?_ ?_<;>intro hd<;>simp (disch:=omega) only [Sh.out hd,go_sem,seval,↓reduceIte]
 ·have e:Xm x v=(nth x.orders v.order.toNat).drp:=by simp [Xm,hd]
  rw [e] at hp ⊢
  have e3: ¬(nth x.orders v.order.toNat).drp.place<0:=Za
  simp (disch:=omega) only [e3,go_sem,seval];exact we
 ·have e:Xm x v=(nth x.orders v.order.toNat).pick:=by simp [Xm,hd]
  rw [e] at hp ⊢
  have e3: ¬(nth x.orders v.order.toNat).pick.place<0:=Za
  simp (disch:=omega) only [e3,go_sem,seval];exact we
theorem uR (l:List Typ) (c:Bool) (ht:l.length<=1048576):PC 264 [.p (.list c (l.map X4))] (.int .i64 (dimsOf l)):=by
 refine Zc Tryz.func264 rfl ZcU ?_;simp (disch:=omega) only [Tryz.f264,go_sem,seval];refine cD ?_ ?_<;>intro h1<;>simp (disch:=omega) only [Sh.out h1,go_sem,seval,↓reduceIte]
 ·grind [dimsOf]
 simp_all [dimsOf]
theorem uT (a b:List Int) (c d:Bool) (ha:a.length<=1048576) (hb:b.length<=1048576):PC 245 [.p (.list c (a.map eI)),.p (.list d (b.map eI))] (.bool (V3 a b)):=by
 refine Zc Tryz.func245 rfl ZcC ?_;simp (disch:=omega) only [Tryz.f245,go_sem,seval];refine cD ?_ ?_<;>intro h1<;>simp (disch:=omega) only [Sh.out h1,go_sem,seval]
 ·grind [V3]
 ·have h1':a.length=b.length:=Za
  refine Zl [1,12,13] (fun k:Nat=> [(14,.p (.int .i64 k))]) (fun _=> []) (fun k=>k<=a.length/\ ∀j,j<k->nth a j<=nth b j) (fun k=>a.length-k) 0 Zb (Weak.mk ?_) ?_
  ·simp (disch:=omega) only [go_sem,seval]
  ·rintro k ⟨hk,hno⟩;refine Zd ?_;refine cD ?_ ?_<;>intro h2<;>simp (disch:=omega) only [Sh.out h2,go_sem,seval,↓reduceIte]
   ·have hk2:k<a.length:=Za
    refine Z1 ?_ ?_<;>intro h3
    ·grind [V3]
    ·exact ⟨k+1,⟨Za,Zr.2 ⟨hno,Za⟩⟩,Za,wk⟩
   ·have hkl:k=a.length:=Za
    simp_all [V3]
theorem uO (t:Typ) (s:Int) (h1:t.skills<9223372036854775808) (h2:s<9223372036854775808):PC 241 [.p (X4 t),.p (.int .i64 s)] (.bool (Yg t s)):=by
 refine Zc Tryz.func241 rfl Zcy ?_;simp (disch:=omega) only [Tryz.f241,go_sem,seval];refine gT ?_ ?_<;>intro c1<;>simp (disch:=omega) only [Sh.out c1,go_sem,seval,↓reduceIte]
 ·refine gT ?_ ?_<;>intro c2<;>simp (disch:=omega) only [Sh.out c2,go_sem,seval,↓reduceIte]
  ·obtain ⟨M,hM⟩: ∃M:Nat,t.skills=(M:Int):=⟨t.skills.toNat,Za⟩;obtain ⟨S,rfl⟩: ∃S:Nat,s=(S:Int):=⟨s.toNat,Za⟩;have hb:=Ef (S:=S) (M:=M) Za
   have e:Yg t (S:Int)=(List.range 63).all fun i=> !S.testBit i||M.testBit i:=by
    simp_all [Yg]
   have hd:decide (IntKind.i64.wrap ((BitVec.ofInt 64 (S:Int)&&& ~~~BitVec.ofInt 64 (M:Int)).toNat:Int)=0)=((List.range 63).all fun i=> !S.testBit i||M.testBit i):=by
    grind
   rw [e,hM];exact ZQ (fun b=>V.p (PV.bool b)) hd
  grind [Yg]
 grind [Yg]
theorem ZdR (a b:Int) (h: -1073741824<=a/\a<=1073741824/\ -1073741824<=b/\b<=1073741824):PC 280 [.p (.int .i64 a),.p (.int .i64 b)] (.int .i64 (a+b)):=by
 refine Zc Tryz.func280 rfl Zda ?_;simp (disch:=omega) only [Tryz.f280,go_sem,seval]
theorem tV (a b:Int) (h: -1073741824<=a/\a<=1073741824/\ -1073741824<=b/\b<=1073741824):PC 281 [.p (.int .i64 a),.p (.int .i64 b)] (.int .i64 (a-b)):=by
 refine Zc Tryz.func281 rfl Zdb ?_;simp (disch:=omega) only [Tryz.f281,go_sem,seval]
def eV (f:Nat->Int) (n k:Nat):List Int:=(List.range n).map fun j=>if j<k then f j else 0
theorem tW {f:Nat->Int} {n k:Nat} :(eV f n k).length=n:=by simp [eV]
theorem lP {f:Nat->Int} {n:Nat} :eV f n 0=List.replicate n 0:=by
 apply UK (by simp [eV]);grind [eV]
theorem lN {f:Nat->Int} {n:Nat} :eV f n n=(List.range n).map f:=by
 simp_all [eV]
theorem tX {f:Nat->Int} {n k:Nat} (h:k<n):(eV f n k).set k (f k)=eV f n (k+1):=by
 apply UK (by simp [eV]);grind [eV]
theorem HG (a b:List Int) (c d:Bool) (g:FuncId) (f:Int->Int->Int) (hl:a.length=b.length) (ha:a.length<=1048576)
  (hf: ∀j,j<a.length->ACalls Tryz.prog g [.p (.int .i64 (nth a j)),.p (.int .i64 (nth b j))] [] fun x H'=>x= .p (.int .i64 (f (nth a j) (nth b j)))/\H'= []) :
  PT 279 [.p (.list c (a.map eI)),.p (.list d (b.map eI)),.fn (.func g) [] []] [.p (.list false (((List.range a.length).map fun j=>f (nth a j) (nth b j)).map eI)),.p (.int .i64 0)]:=by
 refine Zg [9] Tryz.func279 rfl Zc9 ?_;simp (disch:=omega) only [Tryz.f279,go_sem,seval];refine cD ?_ ?_<;>intro h0<;>simp (disch:=omega) only [Sh.out h0,go_sem,seval]
 ·omega
 ·have hz:=lP (f:=fun j=>f (nth a j) (nth b j)) (n:=a.length);have hml:=fun k=>tW (f:=fun j=>f (nth a j) (nth b j)) (n:=a.length) (k:=k);refine Z0 [9] [0,1,2,8,19] (fun k:Nat=> [(20,.p (.int .i64 k))]) (fun k=> [.elems 1 ((eV (fun j=>f (nth a j) (nth b j)) a.length k).map eI)]) (fun k=>k<=a.length) (fun k=>a.length-k) 0 Zb (Weak.mk ?_) ?_
  ·simp (disch:=omega) only [hz,go_sem,seval];rw [AE];rfl
  ·intro k hk;refine Zd ?_;refine cD ?_ ?_<;>intro h1<;>simp (disch:=omega) only [Sh.out h1,go_sem,seval,↓reduceIte]
   ·have hk2:k<a.length:=Za
    have hs:=tX (f:=fun j=>f (nth a j) (nth b j)) (n:=a.length) hk2;have hk3:=hml k;refine ZE 12 mixed Zf Zf ?_;refine Zd ?_;refine Zo (hf k hk2) ?_;refine Zd ?_;simp (disch:=first | omega | (simp only [ZF,ZH,ZA,ZG,Xi,XL]<;>omega)) only [go_sem,seval,↓reduceIte];refine ⟨k+1,Za,Za,Weak.mk ?_⟩;simp (disch:=omega) only [<- hs,go_sem,seval];rw [Ug];rfl
   ·have hkl:k=a.length:=Za
    subst hkl;rw [<- lN];have hk3:=hml a.length;refine Zp (Weak.fz (o:=0) (by rfl)) ?_;refine Zh [] _ _ _ _ ?_;simp (disch:=omega) only [Zs,Zk,ZL,go_sem,seval];rw [if_pos hk3];exact we
theorem mN (a b:List Int) (c d:Bool) (hl:a.length=b.length) (ha:a.length<=1048576) (h: ∀j,j<a.length-> -1073741824<=nth a j/\nth a j<=1073741824/\ -1073741824<=nth b j/\nth b j<=1073741824):PT 265 [.p (.list c (a.map eI)),.p (.list d (b.map eI))] [.p (.list false ((Fk a b).map eI)),.p (.int .i64 0)]:=by
 refine Zg [] Tryz.func265 rfl ZcV ?_;simp (disch:=omega) only [Tryz.f265,go_sem,seval];refine Yo (HG a b c d 280 (fun m n=>m+n) hl ha fun j hj=>ZdR _ _ (h j hj)) ?_;simp (disch:=omega) only [Fk,go_sem,seval];exact we
theorem ZdL (a b:List Int) (c d:Bool) (hl:a.length=b.length) (ha:a.length<=1048576) (h: ∀j,j<a.length-> -1073741824<=nth a j/\nth a j<=1073741824/\ -1073741824<=nth b j/\nth b j<=1073741824):PT 266 [.p (.list c (a.map eI)),.p (.list d (b.map eI))] [.p (.list false ((wD a b).map eI)),.p (.int .i64 0)]:=by
 refine Zg [] Tryz.func266 rfl ZcW ?_;simp (disch:=omega) only [Tryz.f266,go_sem,seval];refine Yo (HG a b c d 281 (fun m n=>m-n) hl ha fun j hj=>tV _ _ (h j hj)) ?_;simp (disch:=omega) only [wD,go_sem,seval];exact we
theorem mR (x:Inst) (r:Rte) (ht:0<=r.typ/\r.typ<(x.types.length:Int)) (hv: ∀v∈r.visits,Ny x v=true) (hl:r.visits.length<=1048576) (hxl:x.types.length<=1048576) (hol:x.orders.length<=1048576)
  (hs:(Zx x r).skills<9223372036854775808) (ho: ∀o∈x.orders,o.skills<9223372036854775808) :
  PC 212 [.p (Zu x),.p (WM r)] (.int .i64 (if (r.visits.any fun v=> !Yg (Zx x r) (nth x.orders v.order.toNat).skills)=true then 18 else 0)):=by
 refine Zc Tryz.func212 rfl Zb6 ?_;simp (disch:=omega) only [Tryz.f212,go_sem,seval];refine Zl [2,3,8,9] (fun k:Nat=> [(10,.p (.int .i64 k))]) (fun _=> [Ze x,.cells [.p (.int .i64 r.typ),.p (.int .i64 r.start),.p (.list r.rests_c (r.rests.map eB)),.p (.list r.visits_c (r.visits.map Z9))]]) (fun k=>k<=r.visits.length/\ ∀j,j<k->Yg (Zx x r) (nth x.orders (nth r.visits j).order.toNat).skills=true) (fun k=>r.visits.length-k) 0 Zb (Weak.mk ?_) ?_
 ·simp (disch:=omega) only [Ze,go_sem,seval]
 ·rintro k ⟨hk,hno⟩;refine YJ ?_;refine cD ?_ ?_<;>intro h1<;>simp (disch:=omega) only [Sh.out h1,go_sem,seval,↓reduceIte]
  ·have hk2:k<r.visits.length:=Za
   have hin:=hv _ (Z2 hk2);simp only [Ny,Zw,Zq] at hin;obtain ⟨i1,i2⟩:=hin
   have hi:(nth r.visits k).order.toNat<x.orders.length:=Za
   have ho':=ho _ (Z2 hi);refine Xd (Zd ?_);refine Zo (uO (Zx x r) (nth x.orders (nth r.visits k).order.toNat).skills Za Za) (Zd ?_);refine Z1 ?_ ?_<;>intro h2
   ·have:(r.visits.any fun v=> !Yg (Zx x r) (nth x.orders v.order.toNat).skills)=true:=by
     grind [Z2]
    grind
   ·exact ⟨k+1,⟨Za,Zr.2 ⟨hno,by grind⟩⟩,Za,wk⟩
  ·have: ¬(r.visits.any fun v=> !Yg (Zx x r) (nth x.orders v.order.toNat).skills)=true:=by
    rw [Wk];rintro ⟨v,hv,e⟩;obtain ⟨j,hj,rfl⟩:=ZS.1 hv
    grind [Zi]
   grind
def Tn (x:Inst) (d:Nat) (ms:List Int) (k:Nat):List Int:=(ms.take k).foldl (fun s i=>if (nth x.orders i.toNat).pick.place<0 then Fk s (nth x.orders i.toNat).load else s) (List.replicate d 0)
theorem OC {x:Inst} {d:Nat} {ms:List Int} {k:Nat} (h:k<ms.length):Tn x d ms (k+1)=if (nth x.orders (nth ms k).toNat).pick.place<0 then Fk (Tn x d ms k) (nth x.orders (nth ms k).toNat).load else Tn x d ms k:=by
 grind [Tn,Ya,Zi]
theorem To {x:Inst} {d:Nat} {ms:List Int} (hms: ∀i∈ms,∀j,j<d->0<=nth (nth x.orders i.toNat).load j/\nth (nth x.orders i.toNat).load j<=1000): ∀k,k<=ms.length->(Tn x d ms k).length=d/\ ∀j,j<d->0<=nth (Tn x d ms k) j/\nth (Tn x d ms k) j<=1000*k
 | 0,_=>by
  grind [Tn,Zi]
 | k+1,h=>by
  obtain ⟨h1,h2⟩:=To hms k Za;rw [OC Za]
  split
  ·refine ⟨by simp [Fk,h1],fun j hj=> ?_⟩;have a1:=h2 j hj;have a2:=hms _ (Z2 (show k<ms.length by omega)) j hj;rw [Fk,K2 Za];omega
  ·exact ⟨h1,fun j hj=>by have:=h2 j hj;omega⟩
theorem wA (x:Inst) (S:Int) (d:Nat) (hd:d<=3) (hol:x.orders.length<=1048576) (hms: ∀i∈X8 S 63,0<=i/\i<(x.orders.length:Int)) (hml:(X8 S 63).length<=63)
  (hld: ∀o∈x.orders,o.load.length=d/\ ∀n∈o.load,0<=n/\n<=1000) :
  PC 263 [.p (Zu x),.p (.int .i64 S),.p (.int .i64 (d:Int))] (.list false ((Tn x d (X8 S 63) (X8 S 63).length).map eI)):=by
 have hmo: ∀i∈X8 S 63,i.toNat<x.orders.length:=fun i hi=>by grind
 have hrg:=To (x:=x) (d:=d) (ms:=X8 S 63) fun i hi j hj=>by
  grind [Z2]
 refine Zc Tryz.func263 rfl ZcT ?_;simp (disch:=omega) only [Tryz.f263,go_sem,seval];refine (DN S).useF (Zd ?_);refine Zp ((Weak.fz (o:=1) (by rfl)).trans (Weak.fz (o:=2) (by rfl))) ?_;simp (disch:=omega) only [Zs,Zk,ZY,ZL,AC,eq_self,go_sem,seval]
 have hz:List.replicate d (PV.int .i64 0)=(Tn x d (X8 S 63) 0).map eI:=by
  show _=(List.replicate d 0).map eI
  rw [AE];rfl
 refine Zl [3,13,14] (fun k:Nat=> [(7,.p (.list false ((Tn x d (X8 S 63) k).map eI))),(15,.p (.int .i64 k))]) (fun _=> [Ze x,.dead,.dead]) (fun k=>k<=(X8 S 63).length) (fun k=>(X8 S 63).length-k) 0 Zb (Weak.mk ?_) ?_
 ·simp (disch:=omega) only [Ze,hz,go_sem,seval]
 ·intro k hk;have hk1:=hrg k hk;have hsn:=fun h=>OC (x:=x) (d:=d) (ms:=X8 S 63) (k:=k) h;refine YJ ?_;refine cD ?_ ?_<;>intro h1<;>simp (disch:=omega) only [Sh.out h1,go_sem,seval,↓reduceIte]
  ·have hk2:k<(X8 S 63).length:=Za
   have hm:=hms _ (Z2 hk2);have hi:=hmo _ (Z2 hk2);have hlo:=hld _ (Z2 hi);have hsn:=hsn hk2;refine Zd ?_;refine Z1 ?_ ?_<;>intro h2
   ·rw [if_pos h2] at hsn;refine Yo (mN (Tn x d (X8 S 63) k) (nth x.orders (nth (X8 S 63) k).toNat).load false (nth x.orders (nth (X8 S 63) k).toNat).load_c Za Za fun j hj=> ?_) ?_
    ·have b1:=hk1.2 j Za;have b2:=hlo.2 _ (Z2 (show j<(nth x.orders (nth (X8 S 63) k).toNat).load.length by omega));omega
    ·refine Zd ?_;exact ⟨k+1,Za,Za,Weak.mk (by simp (disch:=omega) only [hsn,go_sem,seval])⟩
   ·rw [if_neg h2] at hsn;exact ⟨k+1,Za,Za,Weak.mk (by simp (disch:=omega) only [hsn,go_sem,seval])⟩
  grind
theorem PJ {p:Nat->Bool} {n:Nat} (h: ∀i,n<=i->p i=false): ∀k,n<=k->(List.range k).filter p=(List.range n).filter p:=by
 intro k hk
 induction k with
 | zero=>grind
 | succ k ih =>
  grind [Yl]
theorem Zkn {x:Inst} {l:List Vis} (hi:Inr x l) (hn:x.orders.length<=10):X8 ((Xx l:Nat):Int) 63=((List.range x.orders.length).filter fun (i:Nat)=>hasO l (i:Int)).map fun (i:Nat)=>(i:Int):=by
 have key: ∀i:Nat,i<=62->sHas ((Xx l:Nat):Int) (i:Int)=hasO l (i:Int):=fun i h=>by
  rw [WW _ _ h,Wx,CW,Ve]
  constructor
  ·rintro ⟨v,hv,e⟩;exact ⟨v,hv,by have:=hi v hv;omega⟩
  grind
 unfold X8;rw [AG (q:=fun (i:Nat)=>hasO l (i:Int)) (fun i hm=>key i (by grind)),PJ (n:=x.orders.length) (fun i h=> ?_) 63 Za]
 cases hh:hasO l (i:Int) with
 | false=>rfl
 | true =>
  obtain ⟨v,hv,e⟩:=Ve.1 hh;have:=hi v hv;omega
theorem jV {x:Inst} {d:Nat} : ∀(L:List Nat) (g:Nat->Int),(L.map fun (i:Nat)=>(i:Int)).foldl (fun s (i:Int)=>if (nth x.orders i.toNat).pick.place<0 then Fk s (nth x.orders i.toNat).load else s) ((List.range d).map g)=(List.range d).map fun j=>g j+(L.map fun i=>if (nth x.orders i).pick.place<0 then nth (nth x.orders i).load j else 0).sum
 | [],g=>Zb
 | i::L,g=>by
  rw [Zs,XT,XK]
  by_cases h:(nth x.orders i).pick.place<0
  ·have e:Fk ((List.range d).map g) (nth x.orders i).load=(List.range d).map fun j=>g j+nth (nth x.orders i).load j:=by
    grind [Fk,Wj,K2]
   rw [if_pos h,e,jV L]
   grind
  ·rw [if_neg h,jV L]
   grind
theorem dU {x:Inst} {l:List Vis} (hi:Inr x l) (hn:x.orders.length<=10):Tn x (dimsOf x.types).toNat (X8 ((Xx l:Nat):Int) 63) (X8 ((Xx l:Nat):Int) 63).length=Y2 x l 0:=by
 rw [Tn,X7,Zkn hi hn];have:=jV (x:=x) (d:=(dimsOf x.types).toNat) ((List.range x.orders.length).filter fun (i:Nat)=>hasO l (i:Int)) fun _=>0
 have e:(List.range (dimsOf x.types).toNat).map (fun _=>(0:Int))=List.replicate (dimsOf x.types).toNat 0:=by
  simp_all [List.map_const']
 rw [e] at this;rw [this,Y2];refine Wj fun j _=> ?_;rw [Int.zero_add,Ko,Dl]
 congr 1
 refine Wj fun i _=> ?_
 grind [mF]
theorem pC {x:Inst} {l:List Vis} {n j:Nat} {d:Nat} (hj:j<d) (hld: ∀o∈x.orders,o.load.length=d/\ ∀n∈o.load,0<=n/\n<=1000) (hn:x.orders.length<=10):0<=Dl x l n j/\Dl x l n j<=10000:=by
 have key:=Tq (f:=fun i=>if i<x.orders.length then (if (ED x l n i&&hasO l i)=true then nth (nth x.orders i).load j else 0) else 0) (b:=1000) Za (fun q=>by
  grind [Z2]) x.orders.length
 have e:Dl x l n j=((List.range x.orders.length).map fun i=>if i<x.orders.length then (if (ED x l n i&&hasO l i)=true then nth (nth x.orders i).load j else 0) else 0).sum:=by
  simp_all [Dl,Wj]
 omega
theorem fP {x:Inst} {l:List Vis} {n j:Nat} (hj:j<(dimsOf x.types).toNat) (hd:LdOk x):0<=nth (Y2 x l n) j/\nth (Y2 x l n) j<=10000:=by
 rw [Y2,K2 hj];exact pC hj (fun o ho=>by obtain ⟨h1,h2⟩:=hd.load o ho;grind) hd.ord
def xZ {α:Type} (f:α->Bool) (l:List α):Int:=match l.findIdx? f with | some i=>(i:Int) | none=> -1
theorem jX {α:Type} [Inhabited α] {f:α->Bool} {l:List α} {k:Nat} (hk:k<l.length) (h:f (nth l k)=true) (hno: ∀j,j<k->f (nth l j)=false):xZ f l=(k:Int):=by
 have:l.findIdx? f=some k:=by
  grind [Ua,Zi]
 simp [xZ,this]
theorem jZ {α:Type} [Inhabited α] {f:α->Bool} {l:List α} (hno: ∀j,j<l.length->f (nth l j)=false):xZ f l= -1:=by
 have:l.findIdx? f=none:=by
  rw [ER];intro x hx;obtain ⟨j,hj,rfl⟩:=ZS.1 hx
  grind [Zi]
 simp [xZ,this]
theorem jY {α:Type} {f:α->Bool} {l:List α} :decide (0<=xZ f l)=l.any f:=by
 grind [xZ]
theorem aY (l:List (List Int)) (c:Bool) (g:FuncId) (caps:List V) (H:List AM.Obj) (f:List Int->Bool) (hl:l.length<=1048576) (hW:OS H H.length H H) (hc:Xs H.length caps=true)
  (hg: ∀v∈l,ACalls Tryz.prog g (.p (qB v)::caps) H fun x H'=>x= .p (.bool (f v))/\H'=H) :
  ACalls Tryz.prog 267 [.p (.list c (l.map qB)),.fn (.func g) [] caps] H fun x H'=>x= .p (.int .i64 (xZ f l))/\H'=H:=by
 refine Y1 Tryz.func267 rfl ZcX (Zh [] _ _ _ _ ?_);simp (disch:=omega) only [Tryz.f267,go_sem,seval];refine Zl [0,1,7] (fun k:Nat=> [(8,.p (.int .i64 k))]) (fun _=>H) (fun k=>k<=l.length/\ ∀j,j<k->f (nth l j)=false) (fun k=>l.length-k) 0 Zb (Weak.mk ?_) ?_
 ·simp (disch:=omega) only [hW,hc,go_sem,seval];simp
 ·rintro k ⟨hk,hno⟩;refine Zd ?_;refine cD ?_ ?_<;>intro h<;>simp (disch:=omega) only [Sh.out h,go_sem,seval,↓reduceIte]
  ·have hk2:k<l.length:=Za
   have hgk:=hg (nth l k) (Zt hk2);simp (disch:=omega) only [ZaJ,go_sem,seval] at hgk;refine hgk.useH (Zd ?_);refine cD ?_ ?_<;>intro h2<;>simp (disch:=omega) only [Sh.out h2,go_sem,seval,↓reduceIte]
   ·grind [jX]
   ·have h3:f (nth l k)=false:=Za
    refine ⟨k+1,⟨Za,Zr.2 ⟨hno,h3⟩⟩,Za,Weak.mk ?_⟩;simp (disch:=omega) only [hW,hc,go_sem,seval];simp
  grind [jZ]
theorem Lo (l:List (List Int)) (c:Bool) (g:FuncId) (caps:List V) (H:List AM.Obj) (f:List Int->Bool) (hl:l.length<=1048576) (hW:OS H H.length H H) (hc:Xs H.length caps=true)
  (hg: ∀v∈l,ACalls Tryz.prog g (.p (qB v)::caps) H fun x H'=>x= .p (.bool (f v))/\H'=H) :
  ACalls Tryz.prog 243 [.p (.list c (l.map qB)),.fn (.func g) [] caps] H fun x H'=>x= .p (.bool (l.any f))/\H'=H:=by
 refine Y1 Tryz.func243 rfl ZcA (Zh [] _ _ _ _ ?_);simp (disch:=omega) only [Tryz.f243,go_sem,seval];refine (aY l c g caps H f hl hW hc hg).useH (Zd ?_);rw [jY]
theorem mT (x:Inst) (r:Rte) (hx:InstOk x) (hl:r.visits.length<=1048576):PC 211 [.p (Zu x),.p (WM r)] (.int .i64 (Xf x r.visits)):=by
 have hf:=XO hx;obtain ⟨h1,h2⟩:=VN.1 hx.rules
 have ha:x.apart.length<=1048576:=by
  have h3:=(VN.1 h1).1
  grind [Hk]
 have hb:x.before.length<=1048576:=by
  have h3:=(VN.1 h2).1
  grind [Hk]
 exact Rv x r (by have:=hf.len;omega) hl ha hb
theorem uN {x:Inst} {l:List Vis} (hi:Inr x l) (hn:x.orders.length<=10):Jg l=(((Xx l:Nat):Int),0):=by
 rw [Jg,if_pos];rw [Zz];intro v hv;have:=hi v hv;simp [Hl];omega
theorem ZqS {α:Type} (f:Nat->α) (n:Nat):(List.range n).map f++ [f n]=(List.range (n+1)).map f:=by grind [Yl]
theorem mQ (x:Inst) (r:Rte) (hx:InstOk x) (hl:r.visits.length<=1048576) (h0:Xf x r.visits=0) :
  PT 242 [.p (Zu x),.p (WM r)] [.p (.list false ((QO x r.visits).map qB)),.p (.int .i64 0)]:=by
 have hd:=QI hx;have hsq:=VW h0;have hol:=hd.ord;have hso:=Ou r hl;rw [uN hsq.inr hol] at hso
 have hD:dimsOf x.types=((dimsOf x.types).toNat:Int):=by have:=hd.dim;omega
 have cd:=uR x.types x.types_c hd.typ;rw [hD] at cd;have hst:=dU hsq.inr hol
 have hmem: ∀i∈X8 ((Xx r.visits:Nat):Int) 63,0<=i/\i<(x.orders.length:Int):=fun i hi=>by
  rw [Zkn hsq.inr hol] at hi
  grind
 have cs:=wA x ((Xx r.visits:Nat):Int) (dimsOf x.types).toNat (by have:=hd.dim;omega) Za hmem (CM _ _) (fun o ho=>by have:=hd.load o ho;grind);rw [hst] at cs;refine Zg [20] Tryz.func242 rfl Zcz ?_;simp (disch:=omega) only [Tryz.f242,go_sem,seval];refine (mT x r hx hl).use (Zd ?_);simp (disch:=omega) only [h0,go_sem,seval];refine Yo hso (Zd ?_);refine Xd (Zd ?_);refine Zo (cd) (Zd ?_);refine Zo (cs) (Zd ?_);refine Z0 [20] [2,37,38] (fun q:Nat×List (List Int)=> [(9,.p (.list false ((Y2 x r.visits q.1).map eI))),(10,.sl 2 0 q.2.length q.2.length),(39,.p (.int .i64 q.1))]) (fun q=> [Ze x,Xy r,.elems 1 (q.2.map qB)]) (fun q=>q.1<=r.visits.length/\q.2=(List.range (q.1+1)).map (Y2 x r.visits)) (fun q=>r.visits.length-q.1) (0,[Y2 x r.visits 0]) Zb (Weak.mk ?_) ?_
 ·simp (disch:=omega) only [Ze,Xy,Zk,Zs,ZH,ZF,go_sem,seval]
 ·rintro ⟨k,o⟩ ⟨hk,ho⟩;simp only at hk ho
  have hol2:o.length=k+1:=by rw [ho];simp
  refine Ae ?_;refine cD ?_ ?_<;>intro h1<;>simp (disch:=omega) only [Sh.out h1,go_sem,seval,↓reduceIte]
  ·have hk2:k<r.visits.length:=Za
   obtain ⟨v1,v2⟩:=hsq.inr _ (Zt hk2)
   have hi:(nth r.visits k).order.toNat<x.orders.length:=Za
   obtain ⟨l1,l2⟩:=hd.load _ (Z2 hi);have hsu:=TH hsq hk2;have hal:=Fl (x:=x) (l:=r.visits) (n:=k);have hdm:=hd.dim
   have hrg: ∀j,j<(Y2 x r.visits k).length-> -1073741824<=nth (Y2 x r.visits k) j/\nth (Y2 x r.visits k) j<=1073741824/\ -1073741824<=nth (nth x.orders (nth r.visits k).order.toNat).load j/\nth (nth x.orders (nth r.visits k).order.toNat).load j<=1073741824:=fun j hj=>by
    have b1:=fP (x:=x) (l:=r.visits) (n:=k) (j:=j) Za hd
    grind [Z2]
   refine cD ?_ ?_<;>intro h2<;>simp (disch:=omega) only [Sh.out h2,go_sem,seval,↓reduceIte]
   ·rw [if_pos h2] at hsu;refine Yo (ZdL (Y2 x r.visits k) (nth x.orders (nth r.visits k).order.toNat).load false (nth x.orders (nth r.visits k).order.toNat).load_c Za Za hrg) (Zd ?_);exact ⟨(k+1,o++ [Y2 x r.visits (k+1)]),⟨Za,by grind⟩,Za,Weak.mk (by simp (disch:=omega) only [hsu,ZA,ZF,ZH,XC,Zs,Zk,go_sem,seval])⟩
   ·rw [if_neg (by rw [h2];simp)] at hsu;refine Yo (mN (Y2 x r.visits k) (nth x.orders (nth r.visits k).order.toNat).load false (nth x.orders (nth r.visits k).order.toNat).load_c Za Za hrg) (Zd ?_);exact ⟨(k+1,o++ [Y2 x r.visits (k+1)]),⟨Za,by grind⟩,Za,Weak.mk (by simp (disch:=omega) only [hsu,ZA,ZF,ZH,XC,Zs,Zk,go_sem,seval])⟩
  ·have hkl:k=r.visits.length:=Za
   subst hkl;refine Zp (Weak.fz (o:=2) (by rfl)) (Zh [] _ _ _ _ (JK ?_));rw [QO,<- ho];exact we
theorem tC (x:Inst) (r:Rte) (a:List Int) (htl:x.types.length<=1048576) (hty:0<=r.typ/\r.typ<(x.types.length:Int)) (ha:a.length<=1048576) (hc:(Zx x r).cap.length<=1048576) :
  ACalls Tryz.prog 244 [.p (qB a),.ptr 0 0,.ptr 1 0] [Ze x,Xy r] fun y H'=>y= .p (.bool (!V3 a (Zx x r).cap))/\H'= [Ze x,Xy r]:=by
 have hti:r.typ.toNat<x.types.length:=Za
 refine Zg [] Tryz.func244 rfl ZcB ?_;simp (disch:=omega) only [Tryz.f244,Ze,Xy,go_sem,seval];refine (uT a (Zx x r).cap false (Zx x r).cap_c ha hc).use (Zd ?_);exact we
theorem mO (x:Inst) (r:Rte) (hx:InstOk x) (hl:r.visits.length<=1048576) (hty:0<=r.typ/\r.typ<(x.types.length:Int)) (h0:Xf x r.visits=0) :
  PC 213 [.p (Zu x),.p (WM r)] (.int .i64 (if VA x (Zx x r).cap r.visits=true then 0 else 17)):=by
 have hd:=QI hx;have htl:=hd.typ
 have hti:r.typ.toNat<x.types.length:=Za
 have hcp:(Zx x r).cap.length<=1048576:=by
  have hcap:=hx.types.2 _ hti;unfold Ux at hcap;obtain ⟨⟨⟨⟨⟨⟨⟨⟨_,_⟩,_⟩,_⟩,hcap⟩,_⟩,_⟩,_⟩,_⟩:=hcap;simp only [VH,Zw,Zq,rng] at hcap;unfold Zx;omega
 have hll:(QO x r.visits).length=r.visits.length+1:=by simp [QO]
 have hvl:=(VW h0).len hd.ord
 have hall:(QO x r.visits).any (fun a=> !V3 a (Zx x r).cap)= !VA x (Zx x r).cap r.visits:=by
  grind [VA,QO]
 have e1: ¬r.typ<0:=Za
 have e2: ¬(x.types.length:Int)<=r.typ:=Za
 refine Zc Tryz.func213 rfl Zb7 ?_;simp (disch:=omega) only [Tryz.f213,e1,e2,go_sem,seval];refine Yo (mQ x r hx hl h0) (Zd ?_);refine (Lo (QO x r.visits) false 244 [.ptr 0 0,.ptr 1 0] [Ze x,Xy r] (fun a=> !V3 a (Zx x r).cap) Za (by simp (disch:=omega) only [Ze,Xy,go_sem,seval]) (by rfl) (fun a ha=>tC x r a htl hty ?_ hcp)).useH ?_
 ·obtain ⟨j,_,rfl⟩:=Xw.1 ha;rw [Fl];have:=hd.dim;omega
 ·refine Ae ?_;rw [hall];refine cD ?_ ?_<;>intro h1<;>simp (disch:=omega) only [Sh.out h1,go_sem,seval]
  ·grind
  grind
theorem Hd (l:List Int) (c:Bool) (hl:l.length<=1048576):ACalls Tryz.prog 94 [.p (.list c (l.map eI))] [] fun y H'=>y= .sl 0 0 l.length l.length/\H'= [.elems 1 (l.map eI)]:=by
 refine Zg [1] Tryz.func94 rfl Zj9 ?_;simp (disch:=omega) only [Tryz.f94,go_sem,seval];refine WC (Fw (e:=3) (cl:=c) (xs:=l.map eI) Tryz.underlying55 (by rfl) Zb fun b hb=> ?_);refine Zh [] _ _ _ _ ?_;simp (disch:=omega) only [go_sem,seval];refine cD ?_ ?_<;>intro h<;>simp (disch:=omega) only [Sh.out h,go_sem,seval]
 ·have:l= []:=by simpa using hb h
  subst this;exact ⟨_,_,Weak.nil 0 1 rfl Zb,rfl,rfl⟩
 ·refine Zh [] _ _ _ _ ?_;simp (disch:=omega) only [go_sem,seval];exact we
theorem Am {P:Program} {e:TypeId} {k:Nat} {cs:List PV} {kk:IntKind} {n:Int} {x:PV} (h0:0<=n) (h1:n<k) (hx:apart P e cs n.toNat=some x) (ht:Y9 P e=some 1):ME P (some (.array k e)) (.p (.agg cs)) (.p (.int kk n))=some (.p x):=by
 simp_all [ME]
def Zif (s:Sco):PV:= .agg [.int .i64 s.cost,.int .i64 s.moved,.int .i64 s.other,.int .i64 s.work]
@[go_sem] theorem Zma (s:Sco):Zif s= .agg [.int .i64 s.cost,.int .i64 s.moved,.int .i64 s.other,.int .i64 s.work]:=Zm rfl rfl
theorem mU (s:Sco):PC 176 [.p (EB s)] (Zif s):=by
 refine Zg [] Tryz.func176 rfl ZbL ?_;simp (disch:=omega) only [Tryz.f176,go_sem,seval];exact we
def scoR (B:Int) (s:Sco):Prop:=(-B<=s.cost/\s.cost<=B)/\(-B<=s.moved/\s.moved<=B)/\(-B<=s.other/\s.other<=B)/\(-B<=s.work/\s.work<=B)
def qU (s:Sco):AM.Obj:= .cells [.p (.int .i64 s.cost),.p (.int .i64 s.moved),.p (.int .i64 s.other),.p (.int .i64 s.work)]
def YS (s:Sco):Int×Int:=if s.cost<0\/s.moved<0\/s.other<0\/s.work<0 then (0,2) else if 1073741824<s.cost\/16<=s.moved\/16<=s.other\/65536<=s.work then (0,4) else (((s.cost*16+s.moved)*16+s.other)*65536+s.work,0)
theorem Ik (s:Sco) (hs:scoR 1152921504606846976 s):PT 139 [.p (EB s)] [.p (.int .i64 (YS s).1),.p (.int .i64 (YS s).2)]:=by
 obtain ⟨a1,a2,a3,a4⟩:=hs;refine Zg [] Tryz.func139 rfl Zbi ?_;simp (disch:=omega) only [Tryz.f139,go_sem,seval];refine (mU s).use (Zd ?_);refine Zl [1,9] (fun k:Nat=> [(10,.p (.int .i64 k))]) (fun _=> [qU s,qU s]) (fun k=>k<=4/\(0<k->0<=s.cost)/\(1<k->0<=s.moved)/\(2<k->0<=s.other)/\(3<k->0<=s.work)) (fun k=>4-k) 0 ⟨Za,Za,Za,Za,Za⟩ (Weak.mk ?_) ?_
 ·simp (disch:=omega) only [qU,go_sem,seval]
 ·rintro k ⟨hk,k1,k2,k3,k4⟩;simp (disch:=omega) only [qU,go_sem,seval];refine cD ?_ ?_<;>intro h1<;>simp (disch:=omega) only [Sh.out h1,go_sem,seval,↓reduceIte]
  ·have:k=0\/k=1\/k=2\/k=3:=Za
   rcases this with rfl | rfl | rfl | rfl
   ·rw [Am (x:= .int .i64 s.cost) Za Za (by rfl) Zf];refine Zd ?_;refine Z1 ?_ ?_<;>intro h2
    ·have e:YS s=(0,2):=by simp_all [YS]
     rw [e];exact we
    ·exact ⟨1,⟨Za,fun _=>Za,Za,Za,Za⟩,Za,wk⟩
   ·rw [Am (x:= .int .i64 s.moved) Za Za (by rfl) Zf];refine Zd ?_;refine Z1 ?_ ?_<;>intro h2
    ·have e:YS s=(0,2):=by simp_all [YS]
     rw [e];exact we
    ·exact ⟨2,⟨Za,fun _=>k1 Za,fun _=>Za,Za,Za⟩,Za,wk⟩
   ·rw [Am (x:= .int .i64 s.other) Za Za (by rfl) Zf];refine Zd ?_;refine Z1 ?_ ?_<;>intro h2
    ·have e:YS s=(0,2):=by simp_all [YS]
     rw [e];exact we
    ·exact ⟨3,⟨Za,fun _=>k1 Za,fun _=>k2 Za,fun _=>Za,Za⟩,Za,wk⟩
   ·rw [Am (x:= .int .i64 s.work) Za Za (by rfl) Zf];refine Zd ?_;refine Z1 ?_ ?_<;>intro h2
    ·have e:YS s=(0,2):=by simp_all [YS]
     rw [e];exact we
    ·exact ⟨4,⟨Za,fun _=>k1 Za,fun _=>k2 Za,fun _=>k3 Za,fun _=>Za⟩,Za,wk⟩
  ·have hk4:k=4:=Za
   subst hk4;have g1:=k1 Za;have g2:=k2 Za;have g3:=k3 Za;have g4:=k4 Za
   have n1: ¬(s.cost<0\/s.moved<0\/s.other<0\/s.work<0):=Za
   have bad:(1073741824<s.cost\/16<=s.moved\/16<=s.other\/65536<=s.work)->YS s=(0,4):=fun h=>by simp_all [YS]
   refine gF ?_ ?_<;>intro h2<;>simp (disch:=omega) only [Sh.out h2,go_sem,seval,↓reduceIte]
   ·rw [bad Za];exact we
   ·refine gF ?_ ?_<;>intro h3<;>simp (disch:=omega) only [Sh.out h3,go_sem,seval,↓reduceIte]
    ·rw [bad Za];exact we
    ·refine gF ?_ ?_<;>intro h4<;>simp (disch:=omega) only [Sh.out h4,go_sem,seval,↓reduceIte]
     ·rw [bad Za];exact we
     ·refine cD ?_ ?_<;>intro h5<;>simp (disch:=omega) only [Sh.out h5,go_sem,seval,↓reduceIte]
      ·rw [bad Za];exact we
      ·have e:YS s=(((s.cost*16+s.moved)*16+s.other)*65536+s.work,0):=by simp_all [YS,if_neg]
       rw [e];exact we
def unsF (x:Inst) (i:Int):Sco×Int :=
 if i<0\/(x.orders.length:Int)<=i then (zSco,2)
 else if (nth x.orders i.toNat).off=true then (zSco,9)
 else if (nth x.orders i.toNat).penalty= -1 then (zSco,23)
 else (⟨(nth x.orders i.toNat).penalty,if (nth x.orders i.toNat).now= -1 then 0 else 1,0,0⟩,0)
theorem N4 (x:Inst) (i:Int) (ho:x.orders.length<=1048576):PT 138 [.p (Zu x),.p (.int .i64 i)] [.p (EB (unsF x i).1),.p (.int .i64 (unsF x i).2)]:=by
 refine Zg [] Tryz.func138 rfl Zbh ?_;simp (disch:=omega) only [Tryz.f138,go_sem,seval];refine gF ?_ ?_<;>intro h1<;>simp (disch:=omega) only [Sh.out h1,go_sem,seval,↓reduceIte]
 ·have e:unsF x i=(zSco,2):=by simp_all [unsF]
  rw [e];exact we (by simp (disch:=omega) only [zSco,go_sem,seval])
 ·refine cD ?_ ?_<;>intro h2<;>simp (disch:=omega) only [Sh.out h2,go_sem,seval,↓reduceIte]
  ·have e:unsF x i=(zSco,2):=by simp_all [unsF]
   rw [e];exact we (by simp (disch:=omega) only [zSco,go_sem,seval])
  ·have hi:i.toNat<x.orders.length:=Za
   have n1: ¬(i<0\/(x.orders.length:Int)<=i):=Za
   refine cD ?_ ?_<;>intro h3<;>simp (disch:=omega) only [Sh.out h3,go_sem,seval,↓reduceIte]
   ·have e:unsF x i=(zSco,9):=by simp_all [unsF]
    rw [e];exact we (by simp (disch:=omega) only [zSco,go_sem,seval])
   ·have h3': ¬(nth x.orders i.toNat).off=true:=by rw [h3];simp
    refine cD ?_ ?_<;>intro h4<;>simp (disch:=omega) only [Sh.out h4,go_sem,seval,↓reduceIte]
    ·have e:unsF x i=(zSco,23):=by simp_all [unsF]
     rw [e];exact we (by simp (disch:=omega) only [zSco,go_sem,seval])
    ·refine cD ?_ ?_<;>intro h5<;>simp (disch:=omega) only [Sh.out h5,go_sem,seval,↓reduceIte]
     ·have e:unsF x i=(⟨(nth x.orders i.toNat).penalty,1,0,0⟩,0):=by simp_all [unsF]
      rw [e];exact we
     ·have h5':(nth x.orders i.toNat).now= -1:=Za
      have e:unsF x i=(⟨(nth x.orders i.toNat).penalty,0,0,0⟩,0):=by simp_all [unsF]
      rw [e];exact we
theorem Mr (x:Inst) (i:Int) (ho:x.orders.length<=1048576):PT 155 [.p (Zu x),.p (.int .i64 i)] [.p (EB (unsF x i).1),.p (.int .i64 (unsF x i).2)]:=by
 refine Zg [] Tryz.func155 rfl Zbx ?_;simp (disch:=omega) only [Tryz.f155,go_sem,seval];refine gF ?_ ?_<;>intro h1<;>simp (disch:=omega) only [Sh.out h1,go_sem,seval,↓reduceIte]
 ·have e:unsF x i=(zSco,2):=by simp_all [unsF]
  rw [e];exact we (by simp (disch:=omega) only [zSco,go_sem,seval])
 ·refine cD ?_ ?_<;>intro h2<;>simp (disch:=omega) only [Sh.out h2,go_sem,seval,↓reduceIte]
  ·have e:unsF x i=(zSco,2):=by simp_all [unsF]
   rw [e];exact we (by simp (disch:=omega) only [zSco,go_sem,seval])
  ·have hi:i.toNat<x.orders.length:=Za
   have n1: ¬(i<0\/(x.orders.length:Int)<=i):=Za
   refine cD ?_ ?_<;>intro h3<;>simp (disch:=omega) only [Sh.out h3,go_sem,seval,↓reduceIte]
   ·have e:unsF x i=(zSco,9):=by simp_all [unsF]
    rw [e];exact we (by simp (disch:=omega) only [zSco,go_sem,seval])
   ·have h3': ¬(nth x.orders i.toNat).off=true:=by rw [h3];simp
    refine cD ?_ ?_<;>intro h4<;>simp (disch:=omega) only [Sh.out h4,go_sem,seval,↓reduceIte]
    ·have e:unsF x i=(zSco,23):=by simp_all [unsF]
     rw [e];exact we (by simp (disch:=omega) only [zSco,go_sem,seval])
    ·refine cD ?_ ?_<;>intro h5<;>simp (disch:=omega) only [Sh.out h5,go_sem,seval,↓reduceIte]
     ·have e:unsF x i=(⟨(nth x.orders i.toNat).penalty,1,0,0⟩,0):=by simp_all [unsF]
      rw [e];exact we
     ·have h5':(nth x.orders i.toNat).now= -1:=Za
      have e:unsF x i=(⟨(nth x.orders i.toNat).penalty,0,0,0⟩,0):=by simp_all [unsF]
      rw [e];exact we
def Uf (s:Sco):Bool:=decide (0<=s.cost)&&decide (s.cost<=1073741824)&&decide (0<=s.moved)&&decide (s.moved<=15)&&decide (0<=s.other)&&decide (s.other<=15)&&decide (0<=s.work)&&decide (s.work<=65535)
theorem cX (s:Sco):PC 193 [.p (EB s)] (.bool (Uf s)):=by
 refine Zc Tryz.func193 rfl ZbS ?_;simp (disch:=omega) only [Tryz.f193,go_sem,seval];refine gT ?_ ?_<;>intro h1<;>simp (disch:=omega) only [Sh.out h1,go_sem,seval,↓reduceIte]
 ·refine gT ?_ ?_<;>intro h2<;>simp (disch:=omega) only [Sh.out h2,go_sem,seval,↓reduceIte]
  ·refine gT ?_ ?_<;>intro h3<;>simp (disch:=omega) only [Sh.out h3,go_sem,seval,↓reduceIte]
   ·refine gT ?_ ?_<;>intro h4<;>simp (disch:=omega) only [Sh.out h4,go_sem,seval,↓reduceIte]
    ·refine gT ?_ ?_<;>intro h5<;>simp (disch:=omega) only [Sh.out h5,go_sem,seval,↓reduceIte]
     ·refine gT ?_ ?_<;>intro h6<;>simp (disch:=omega) only [Sh.out h6,go_sem,seval,↓reduceIte]
      ·refine gT ?_ ?_<;>intro h7<;>simp (disch:=omega) only [Sh.out h7,go_sem,seval,↓reduceIte]
       ·grind [Uf]
       grind [Uf]
      grind [Uf]
     grind [Uf]
    grind [Uf]
   grind [Uf]
  grind [Uf]
 ·simp [Uf,h1]
theorem G0 (s:Sco) (hs:scoR 1152921504606846976 s):PT 156 [.p (EB s)] [.p (.int .i64 (YS s).1),.p (.int .i64 (YS s).2)]:=by
 obtain ⟨a1,a2,a3,a4⟩:=hs
 have bad:(s.cost<0\/s.moved<0\/s.other<0\/s.work<0)->YS s=(0,2):=fun h=>by rw [YS,if_pos h]
 refine Zg [] Tryz.func156 rfl Zby ?_;simp (disch:=omega) only [Tryz.f156,go_sem,seval];refine gF ?_ ?_<;>intro h1<;>simp (disch:=omega) only [Sh.out h1,go_sem,seval,↓reduceIte]
 ·rw [bad Za];exact we
 ·refine gF ?_ ?_<;>intro h2<;>simp (disch:=omega) only [Sh.out h2,go_sem,seval,↓reduceIte]
  ·rw [bad Za];exact we
  ·refine gF ?_ ?_<;>intro h3<;>simp (disch:=omega) only [Sh.out h3,go_sem,seval,↓reduceIte]
   ·rw [bad Za];exact we
   ·refine cD ?_ ?_<;>intro h4<;>simp (disch:=omega) only [Sh.out h4,go_sem,seval,↓reduceIte]
    ·rw [bad Za];exact we
    ·have n1: ¬(s.cost<0\/s.moved<0\/s.other<0\/s.work<0):=Za
     refine (cX s).use (Zd ?_);refine cD ?_ ?_<;>intro h5<;>simp (disch:=omega) only [Sh.out h5,go_sem,seval,↓reduceIte]
     ·have e:YS s=(0,4):=by
       have h6: ¬Uf s=true:=by grind
       rw [YS,if_neg n1,if_pos];refine Ke fun h7=>h6 ?_;simp [Uf];omega
      rw [e];exact we
     ·have h6:Uf s=true:=by grind
      simp [Uf] at h6
      have e:YS s=(((s.cost*16+s.moved)*16+s.other)*65536+s.work,0):=by rw [YS,if_neg n1,if_neg Za]
      rw [e];refine Zd ?_;exact we
def nI (s:Sco):Prop:=0<=s.cost/\0<=s.moved/\0<=s.other/\0<=s.work
theorem OP {s:Sco} (hs:nI s):(YS s).2=0↔s.cost<=1073741824/\s.moved<16/\s.other<16/\s.work<65536:=by
 obtain ⟨a1,a2,a3,a4⟩:=hs;unfold YS
 grind
theorem pM {s:Sco} (hs:nI s) (h:(YS s).2=0):(YS s).1=((s.cost*16+s.moved)*16+s.other)*65536+s.work:=by
 have h:=(OP hs).1 h;obtain ⟨a1,a2,a3,a4⟩:=hs
 simp_all [YS,if_neg]
theorem OJ {x:Inst} (hx:InstOk x) (i:Int):scoR 1073741824 (unsF x i).1:=by
 unfold unsF
 split
 ·simp [scoR,zSco]
 ·split
  ·simp [scoR,zSco]
  ·split
   ·simp [scoR,zSco]
   ·have ha:=(hx.orders.2 i.toNat Za).arg;simp only [argOk,rng,Zw,Zq] at ha
    grind [scoR]
theorem A3 {a:Sco} {B C:Int} (h:B<=C) (ha:scoR B a):scoR C a:=by
 grind [scoR]
def Nb (x:Inst) (t:Typ) (r:Rte) (c:Bool) (sp:List Stp):PV:= .agg [.list x.net.places_c (x.net.places.map eS),.list x.net.arcs_c (x.net.arcs.map V2),.list x.types_c (x.types.map X4),.list x.orders_c (x.orders.map Yj),.list x.apart_c (x.apart.map eP),.list x.before_c (x.before.map eP),.str t.name,.int .i64 t.count,.int .i64 t.src,.int .i64 t.dst,.list t.cap_c (t.cap.map eI),.int .i64 t.skills,.int .i64 t.prof,.int .i64 t.opn,.int .i64 t.cls,.int .i64 t.drive,.int .i64 t.rest,.int .i64 t.fixed,.int .i64 t.perMile,.int .i64 t.perTick,.int .i64 r.typ,.int .i64 r.start,.list r.rests_c (r.rests.map eB),.list r.visits_c (r.visits.map Z9),.list c (sp.map FI)]
@[go_sem] theorem Zmt (x:Inst) (t:Typ) (r:Rte) (c:Bool) (sp:List Stp):Nb x t r c sp= .agg [.list x.net.places_c (x.net.places.map eS),.list x.net.arcs_c (x.net.arcs.map V2),.list x.types_c (x.types.map X4),.list x.orders_c (x.orders.map Yj),.list x.apart_c (x.apart.map eP),.list x.before_c (x.before.map eP),.str t.name,.int .i64 t.count,.int .i64 t.src,.int .i64 t.dst,.list t.cap_c (t.cap.map eI),.int .i64 t.skills,.int .i64 t.prof,.int .i64 t.opn,.int .i64 t.cls,.int .i64 t.drive,.int .i64 t.rest,.int .i64 t.fixed,.int .i64 t.perMile,.int .i64 t.perTick,.int .i64 r.typ,.int .i64 r.start,.list r.rests_c (r.rests.map eB),.list r.visits_c (r.visits.map Z9),.list c (sp.map FI)]:=Zm rfl rfl
def Zeg (x:Inst) (t:Typ) (r:Rte):List V:= [.p (.list x.net.places_c (x.net.places.map eS)),.p (.list x.net.arcs_c (x.net.arcs.map V2)),.p (.list x.types_c (x.types.map X4)),.p (.list x.orders_c (x.orders.map Yj)),.p (.list x.apart_c (x.apart.map eP)),.p (.list x.before_c (x.before.map eP)),.p (.str t.name),.p (.int .i64 t.count),.p (.int .i64 t.src),.p (.int .i64 t.dst),.p (.list t.cap_c (t.cap.map eI)),.p (.int .i64 t.skills),.p (.int .i64 t.prof),.p (.int .i64 t.opn),.p (.int .i64 t.cls),.p (.int .i64 t.drive),.p (.int .i64 t.rest),.p (.int .i64 t.fixed),.p (.int .i64 t.perMile),.p (.int .i64 t.perTick),.p (.int .i64 r.typ),.p (.int .i64 r.start),.p (.list r.rests_c (r.rests.map eB)),.p (.list r.visits_c (r.visits.map Z9))]
def Wm (x:Inst) (t:Typ) (r:Rte) (c:Bool) (sp:List Stp):AM.Obj:= .cells [.p (.list x.net.places_c (x.net.places.map eS)),.p (.list x.net.arcs_c (x.net.arcs.map V2)),.p (.list x.types_c (x.types.map X4)),.p (.list x.orders_c (x.orders.map Yj)),.p (.list x.apart_c (x.apart.map eP)),.p (.list x.before_c (x.before.map eP)),.p (.str t.name),.p (.int .i64 t.count),.p (.int .i64 t.src),.p (.int .i64 t.dst),.p (.list t.cap_c (t.cap.map eI)),.p (.int .i64 t.skills),.p (.int .i64 t.prof),.p (.int .i64 t.opn),.p (.int .i64 t.cls),.p (.int .i64 t.drive),.p (.int .i64 t.rest),.p (.int .i64 t.fixed),.p (.int .i64 t.perMile),.p (.int .i64 t.perTick),.p (.int .i64 r.typ),.p (.int .i64 r.start),.p (.list r.rests_c (r.rests.map eB)),.p (.list r.visits_c (r.visits.map Z9)),.p (.list c (sp.map FI))]
def Zes : AM.Obj:= .cells [.p (.list true []),.p (.list true []),.p (.list true []),.p (.list true []),.p (.list true []),.p (.list true []),.p (.str []),.p (.int .i64 0),.p (.int .i64 0),.p (.int .i64 0),.p (.list true []),.p (.int .i64 0),.p (.int .i64 0),.p (.int .i64 0),.p (.int .i64 0),.p (.int .i64 0),.p (.int .i64 0),.p (.int .i64 0),.p (.int .i64 0),.p (.int .i64 0),.p (.int .i64 0),.p (.int .i64 0),.p (.list true []),.p (.list true []),.p (.list true [])]
def JX (L:Lab):PV:= .agg [.int .i64 L.ready,.int .i64 L.since,.bool L.she.rest,.int .i64 L.she.dep,.list L.she.times_c (L.she.times.map eTim),.int .i64 L.she.fin,.int .i64 L.she.miles]
@[go_sem] theorem Zmj (L:Lab):JX L= .agg [.int .i64 L.ready,.int .i64 L.since,.bool L.she.rest,.int .i64 L.she.dep,.list L.she.times_c (L.she.times.map eTim),.int .i64 L.she.fin,.int .i64 L.she.miles]:=Zm rfl rfl
@[go_sem] theorem Ze0 (l:List Lab):B4 7 (l.map JX)=true:=B5 (f:=JX) (S:=7) (fun _=>rfl) l
def Va (L:Lab):AM.Obj:= .cells [.p (.int .i64 L.ready),.p (.int .i64 L.since),.p (.bool L.she.rest),.p (.int .i64 L.she.dep),.p (.list L.she.times_c (L.she.times.map eTim)),.p (.int .i64 L.she.fin),.p (.int .i64 L.she.miles)]
theorem iJ (l:List Tim) (c:Bool) (hl:l.length<=1048576):ACalls Tryz.prog 282 [.p (.list c (l.map eTim))] [] fun x H'=>x= .sl 0 0 l.length l.length/\H'= [.elems 4 (l.map eTim)]:=by
 suffices hh:ACalls Tryz.prog 282 [.p (.list c (l.map eTim))] [] fun x H'=> ∃m:List Tim,m=l/\x= .sl 0 0 m.length m.length/\H'= [.elems 4 (m.map eTim)] by
  grind
 refine Zg [1] Tryz.func282 rfl Zdc ?_;simp (disch:=omega) only [Tryz.f282,go_sem,seval];refine WC (WC (rP 1 rfl rfl ?_));refine ⟨_,uH (e:=335) rfl Tryz.underlying247 rfl (fun _=>rfl),?_⟩;rintro _ ⟨b,rfl,hb⟩;refine Zd ?_;refine Zh [] _ _ _ _ ?_
 cases b with
 | true =>
  have hn:l= []:=by simp_all
  subst hn;refine Zd ?_;exact ⟨_,_,Weak.ofNil 0 4 rfl Zb (wk),[],rfl,rfl,rfl⟩
 | false =>
  refine Zd ?_;refine Zh [] _ _ _ _ (Zd ?_);exact ⟨.sl 0 0 l.length l.length,[.elems 4 (l.map eTim)],wk,l,rfl,rfl,rfl⟩
theorem HA (x:Inst) (t:Typ) (r:Rte) (c:Bool) (sp:List Stp):PC 247 [.p (Nb x t r c sp)] (JX (labF t r.start)):=by
 refine Zg [] Tryz.func247 rfl ZcD ?_;simp (disch:=omega) only [Tryz.f247,go_sem,seval];exact we (by simp (disch:=omega) only [labF,zShe,Zk,go_sem,seval])
theorem nJ (x:Inst) (t:Typ) (r:Rte) (c:Bool) (sp:List Stp) (k:Nat) (hk:k<=sp.length) (hl:sp.length<=1048576):PC 283 [.p (Nb x t r c sp),.p (.int .i64 (k:Nat))] (.int .i64 (Ue t sp k)):=by
 refine Zc Tryz.func283 rfl Zdd ?_;simp (disch:=omega) only [Tryz.f283,go_sem,seval];refine cD ?_ ?_<;>intro h<;>simp (disch:=omega) only [Sh.out h,go_sem,seval,↓reduceIte]
 ·simp_all [Ue]
 simp_all [Ue]
theorem ZdQ (x:Inst) (r:Rte) (hx:InstOk x) (hty:0<=r.typ/\r.typ<(x.types.length:Int)) (h0:Xf x r.visits=0) (hs:0<=r.start/\r.start<=4096) :
  PT 246 [.p (Zu x),.p (WM r)] [.p (Nb x (Zx x r) r false (ZI x r.visits)),.p (.bool true)]:=by
 have hd:=QI hx;have hsq:=VW h0;have hol:=hd.ord;have htl:=hd.typ;have hvl:=hsq.len hol
 have e1: ¬r.typ<0:=Za
 have e2: ¬(x.types.length:Int)<=r.typ:=Za
 have e3: ¬r.start<0:=Za
 have e4: ¬ 4096<r.start:=Za
 have e5: ¬ 20<(r.visits.length:Int):=Za
 refine Zg [12] Tryz.func246 rfl kT ?_;simp (disch:=omega) only [Tryz.f246,e1,e2,e3,e4,e5,go_sem,seval];refine X6 [9] 10 mixed Zf Zf Zf Zb (Zd ?_);refine Xv 9 _ _ Zf (by refine Zd ?_;exact ⟨rfl,rfl⟩) (WE ?_);refine Zd ?_
 refine Z0 [12] [2,4,6,49,50] (fun q:Nat×List Stp=> [(51,.p (.int .i64 q.1))])
  (fun q=> [Ze x,Xy r,Zes,.cells (Zeg x (Zx x r) r++ [.sl 4 0 q.2.length q.2.length]),.elems 4 (q.2.map FI)])
  (fun q=>q.1<=r.visits.length/\q.2=(ZI x r.visits).take q.1) (fun q=>r.visits.length-q.1) (0,[]) Zb ((Weak.nilC (o:=3) (j:=24) 4 rfl rfl Zb).trans (Weak.mk ?_)) ?_
 ·simp (disch:=omega) only [Ze,Xy,Zes,Zeg,Zx,Zk,ZH,ZY,ZL,ZP,ZC,go_sem,seval]
 ·rintro ⟨k,o⟩ ⟨hk,ho⟩;simp only at hk ho
  have hol2:o.length=k:=by grind [Ym]
  simp (disch:=omega) only [Ze,Xy,Zes,Zeg,go_sem,seval];refine cD ?_ ?_<;>intro h1<;>simp (disch:=omega) only [Sh.out h1,go_sem,seval,↓reduceIte]
  ·have hk2:k<r.visits.length:=Za
   have hvis:=hsq.vis (Zt hk2);simp only [Ak,Zw,Zq] at hvis
   have hsn:o++ [Xm x (nth r.visits k)]=(ZI x r.visits).take (k+1):=by
    rw [ho,Ya (by grind [Ym]),<- Zi,GS hk2]
   have hnp: ¬(Xm x (nth r.visits k)).place<0:=Za
   refine Yo (S4 x (nth r.visits k) Za hvis.1 hvis.2) ?_;simp (disch:=omega) only [hnp,go_sem,seval];exact ⟨(k+1,o++ [Xm x (nth r.visits k)]),⟨Za,hsn⟩,Za,Weak.mk (by simp (disch:=omega) only [ZA,ZF,ZH,XC,Zs,Zk,go_sem,seval])⟩
  ·have hkl:k=r.visits.length:=Za
   subst hkl
   have hso:o=ZI x r.visits:=by grind [Ym]
   subst hso;refine Zp (Weak.fz (o:=4) (by rfl)) (Zh [] _ _ _ _ (JK ?_));exact we
def Ox (rd sn:Int) (m:She):AM.Obj:= .cells [.p (.int .i64 rd),.p (.int .i64 sn),.p (.bool m.rest),.p (.int .i64 m.dep),.sl 4 0 m.times.length m.times.length,.p (.int .i64 m.fin),.p (.int .i64 m.miles)]
theorem FM {P:Program} {H:List AM.Obj} {f ars} {a b d:PV} {B:V->Prop} {t} (h:ACalls P f ars [] fun x H'=>x= .tup [.p a,.p b,.p d]/\H'= []) (k:B (.tup [.p a,.p b,.p d])) (ha:Xs 0 ars=true:=by rfl) :
  aL (fun y=>ACalls P f ars H (Zv (Zv (fun x H'=>x=y/\H'=H) ⟨⟩) ⟨⟩)) (Zv B t) :=
 ⟨.tup [.p a,.p b,.p d],(h.behind ha H).mono fun x H' hq=>by
  obtain ⟨y,H1,⟨rfl,rfl⟩,rfl,rfl⟩:=hq
  simp [shV,shVs,Zv],k⟩
theorem ZdB (x:Inst) (t:Typ) (r:Rte) (c:Bool) (sp:List Stp) (hok:TrpOk x t sp) (k:Nat) (hk:k<=sp.length) (hs1:0<sp.length) (L:Lab) (hL:LabR k L) (hlen:L.she.times.length=k) (hclip:0<k->L.she.times_c=false) (b:Bool) :
  PT 268 [.p (Nb x t r c sp),.p (JX L),.p (.int .i64 (k:Nat)),.p (.bool b)] [.p (JX (nxtF x t sp k L b).1),.p (.int .i64 (nxtF x t sp k L b).2)]:=by
 have hd:=KK hok hL b;have hsn:=GQ hL b;have hg:=Lw hok hL b;have hmi:=hL.mil;have hrd:=hL.rdy;have hsnL:=hL.snc;have hsl:=hok.len;have hrst:=hok.rst;unfold nxtF;have hmm:= @KV k (ZO t L b) b L.she;have hmf:= @Ie k (ZO t L b) b L.she;have hml:= @AS k (ZO t L b) b L.she;refine Zg [2,7,14,31] Tryz.func268 rfl ZcY ?_;simp (disch:=omega) only [Tryz.f268,go_sem,seval];refine Xd (Zd ?_);refine ZN [2,3,4,5,8] (fun _:Unit=> [(10,.p (.int .i64 (ZO t L b))),(11,.p (.int .i64 (W4 L b)))]) (fun _=> [Wm x t r c sp,Va L,Va W6]) (fun _=>True) ?_ ?_
 ·refine Zd ?_;refine Z1 ?_ ?_<;>intro h
  ·subst h;exact ⟨(),Weak.mk (by simp (disch:=omega) only [Wm,Va,W6,zShe,ZO,W4,Zk,go_sem,seval,↓reduceIte])⟩
  ·subst h;exact ⟨(),Weak.mk (by simp (disch:=omega) only [Wm,Va,W6,zShe,ZO,W4,Zk,go_sem,seval,↓reduceIte])⟩
 ·intro _ _;refine Zh [7,14,31] _ _ _ _ ?_;simp (disch:=omega) only [Wm,Va,W6,zShe,Zk,go_sem,seval];refine (iJ L.she.times L.she.times_c Za).useF (Zd ?_)
  generalize hM:X5 k (ZO t L b) b L.she=M at *
  refine ZN [2,4,8,10,11,12] (fun _:Unit=> []) (fun _=> [Wm x t r c sp,Va L,Va W6,Ox 0 0 M,.elems 4 (M.times.map eTim)]) (fun _=>True) ?_ ?_
  ·refine Zd ?_;refine Z1 ?_ ?_<;>intro h
   ·have hk0:k=0:=Za
    subst hk0
    have e:M= { L.she with rest:=b,dep:=ZO t L b } :=by rw [<- hM,X5,if_pos rfl]
    rw [e];exact ⟨(),Weak.mk (by simp (disch:=omega) only [Wm,Va,W6,zShe,Ox,Zk,go_sem,seval])⟩
   ·have e1:((k:Int)-1).toNat=k-1:=Za
    have hk1:k-1<L.she.times.length:=Za
    have Sw:(L.she.times.map eTim).set (k-1) (PV.agg [.int .i64 (nth L.she.times (k-1)).arr,.int .i64 (nth L.she.times (k-1)).beg,.int .i64 (nth L.she.times (k-1)).dep,.bool b])=(L.she.times.set (k-1) { nth L.she.times (k-1) with rest:=b }).map eTim:=by
     rw [Ug];rfl
    have hn1:nth (L.she.times.set (k-1) { nth L.she.times (k-1) with rest:=b }) (k-1)= { nth L.she.times (k-1) with rest:=b } :=by
     grind [Zi]
    have hl1:(L.she.times.set (k-1) { nth L.she.times (k-1) with rest:=b }).length=L.she.times.length:=Zb
    have hMt:M.times=(L.she.times.set (k-1) { nth L.she.times (k-1) with rest:=b }).set (k-1) { nth (L.she.times.set (k-1) { nth L.she.times (k-1) with rest:=b }) (k-1) with dep:=ZO t L b } :=by
     rw [hn1,List.set_set,<- hM,X5,if_neg Za];rfl
    have hM2:M.rest=L.she.rest/\M.dep=L.she.dep:=by rw [<- hM,X5,if_neg Za];simp
    simp (disch:=first | omega | (simp only [ZF,ZH,ZA,ZG,Xi,XL]<;>omega)) only [e1,go_sem,seval,↓reduceIte];rw [Sw]
    generalize L.she.times.set (k-1) { nth L.she.times (k-1) with rest:=b } =l1 at *
    simp (disch:=first | omega | (simp only [ZF,ZH,ZA,ZG,Xi,XL]<;>omega)) only [e1,hl1,eq_self,Vj,go_sem,seval];refine ⟨(),Weak.mk ?_⟩;simp (disch:=omega) only [Wm,Va,W6,zShe,Ox,Zk,hM2.1,hM2.2,hmm,hmf,hml,go_sem,seval];rw [hMt,Ug]
    rfl
  ·intro _ _;refine Zh [14,31] _ _ _ _ ?_;simp (disch:=omega) only [Wm,Va,W6,zShe,Ox,Zk,go_sem,seval];refine ZN [2,4,8,10,11,12,13] (fun _:Unit=> [(14,.p (.int .i64 (OY t sp k)))]) (fun _=> [Wm x t r c sp,Va L,Va W6,Ox 0 0 M,.elems 4 (M.times.map eTim)]) (fun _=>True) ?_ ?_
   ·refine Zd ?_;refine Z1 ?_ ?_<;>intro h
    ·have e:OY t sp k=(nth sp k).place:=by rw [OY,if_neg Za]
     exact ⟨(),Weak.mk (by simp (disch:=omega) only [Wm,Va,W6,zShe,Ox,Zk,e,go_sem,seval])⟩
    ·have e:OY t sp k=t.dst:=by rw [OY,if_pos Za]
     exact ⟨(),Weak.mk (by simp (disch:=omega) only [Wm,Va,W6,zShe,Ox,Zk,e,go_sem,seval])⟩
   ·intro _ _;refine Zh [31] _ _ _ _ ?_;simp (disch:=omega) only [Wm,Va,W6,zShe,Ox,Zk,go_sem,seval];refine Xd (Zd ?_);refine Zo (nJ x t r c sp k hk Za) (Zd ?_);refine FM (yK x.net t.prof (Ue t sp k) (OY t sp k) (ZO t L b) hok.net Za) (Zd ?_);have hG:W8 x.net t.prof (Ue t sp k) (OY t sp k) (ZO t L b)=Wb x t sp k (ZO t L b):=rfl;rw [hG];clear hG
    generalize Wb x t sp k (ZO t L b)=g at *
    generalize ZO t L b=d at *
    generalize W4 L b=s at *
    refine cD ?_ ?_<;>intro h1<;>simp (disch:=omega) only [Sh.out h1,go_sem,seval,↓reduceIte]
    ·have e:WL t sp k g d s M=(W6,12):=by rw [WL,if_pos h1]
     rw [e];exact we (by simp (disch:=omega) only [W6,zShe,Zk,go_sem,seval])
    ·refine cD ?_ ?_<;>intro h2<;>simp (disch:=omega) only [Sh.out h2,go_sem,seval,↓reduceIte]
     ·refine cD ?_ ?_<;>intro h3<;>simp (disch:=omega) only [Sh.out h3,go_sem,seval,↓reduceIte]
      ·have e:WL t sp k g d s M=(W6,15):=by rw [WL,if_neg h1,if_pos Za,if_pos h3]
       rw [e];exact we (by simp (disch:=omega) only [W6,zShe,Zk,go_sem,seval])
      ·refine Zp (Weak.fz (o:=4) (by rfl)) (Zh [] _ _ _ _ (JK ?_));refine cD ?_ ?_<;>intro h4<;>simp (disch:=omega) only [Sh.out h4,go_sem,seval,↓reduceIte]
       ·have e:WL t sp k g d s M=(W6,16):=by rw [WL,if_neg h1,if_pos Za,if_neg h3,if_pos h4]
        rw [e];exact we (by simp (disch:=omega) only [W6,zShe,Zk,go_sem,seval])
       ·have e:WL t sp k g d s M=(⟨g.1,s+g.1-d,{ M with fin:=g.1,miles:=M.miles+g.2.1 }⟩,0):=by rw [WL,if_neg h1,if_pos Za,if_neg h3,if_neg h4]
        have hMc:M.times_c=false:=by
         rw [<- hM,X5,if_neg Za]
         grind
        rw [e];exact we (by simp (disch:=omega) only [hMc,go_sem,seval])
     ·have h2': ¬k=sp.length:=Za
      have hkl:k<sp.length:=Za
      have hstp:=hok.stp _ (Z2 hkl);refine Yo (R2 (nth sp k) g.1) ?_;unfold Fz
      by_cases h3:(nth sp k).cls<max g.1 (nth sp k).opn
      ·have e:WL t sp k g d s M=(W6,14):=by simp_all [WL]
       rw [e,if_pos h3];refine Zd ?_;exact we (by simp (disch:=omega) only [W6,zShe,Zk,go_sem,seval])
      ·rw [if_neg h3];refine Zd ?_;refine Zp (Weak.fz (o:=4) (by rfl)) (Zh [] _ _ _ _ (JK ?_));refine cD ?_ ?_<;>intro h4<;>simp (disch:=omega) only [Sh.out h4,go_sem,seval,↓reduceIte]
       ·have e:WL t sp k g d s M=(W6,16):=by simp_all [WL]
        rw [e];exact we (by simp (disch:=omega) only [W6,zShe,Zk,go_sem,seval])
       ·have e:WL t sp k g d s M=(⟨max g.1 (nth sp k).opn+(nth sp k).serv,s+g.1-d,{ M with times_c:=false,times:=M.times++ [⟨g.1,max g.1 (nth sp k).opn,0,false⟩],miles:=M.miles+g.2.1 }⟩,0):=by simp_all [WL,if_neg]
        rw [e];exact we
theorem bT {x t sp k L b} (hs:0<sp.length) (hc:0<k->L.she.times_c=false) (he:(nxtF x t sp k L b).2=0):(nxtF x t sp k L b).1.she.times_c=false:=by
 have hm:0<k->(X5 k (ZO t L b) b L.she).times_c=false:=fun h=>by rw [X5,if_neg Za];exact hc h
 unfold nxtF at he ⊢
 generalize Wb x t sp k (ZO t L b)=g at *
 generalize ZO t L b=d at *
 generalize W4 L b=s at *
 generalize X5 k d b L.she=m at *
 unfold WL at he ⊢
 grind
structure LabO (n k:Nat) (L:Lab):Prop where
 rng:LabR k L
 len:k<=n->L.she.times.length=k
 clip:0<k->L.she.times_c=false
theorem H5 {x t sp k L b} (hok:TrpOk x t sp) (hs:0<sp.length) (hk:k<=sp.length) (h:LabO sp.length k L) (he:(nxtF x t sp k L b).2=0):LabO sp.length (k+1) (nxtF x t sp k L b).1 :=
 ⟨LU hok hk h.rng he,fun hk2=>Ge (h.len hk) he Za,fun _=>bT hs h.clip he⟩
theorem H6 {x t sp} (hok:TrpOk x t sp) {st:Int} (hst:0<=st/\st<=4096):LabO sp.length 0 (labF t st) :=
 ⟨⟨by have:=hok.opn;grind [labF],by simp [labF],by simp [labF,zShe]⟩,fun _=>rfl,fun h=>Za⟩
theorem SX (x:Inst) (t:Typ) (r:Rte) (c:Bool) (sp:List Stp) (hok:TrpOk x t sp) (k:Nat) (hk:k<=sp.length) (hs1:0<sp.length) (L:Lab) (hL:LabO sp.length k L) (b:Bool) :
  PT 268 [.p (Nb x t r c sp),.p (JX L),.p (.int .i64 (k:Nat)),.p (.bool b)] [.p (JX (nxtF x t sp k L b).1),.p (.int .i64 (nxtF x t sp k L b).2)] :=
 ZdB x t r c sp hok k hk hs1 L hL.rng (hL.len hk) hL.clip b
theorem ZkQ (x:Inst) (t:Typ) (r:Rte) (c:Bool) (sp:List Stp) (hok:TrpOk x t sp) (hs1:0<sp.length) (hst:0<=r.start/\r.start<=4096) (bs:List Bool) (d:Bool) (hb:bs.length=sp.length+1) :
  PT 249 [.p (Nb x t r c sp),.p (.list d (bs.map eB))] [.p (FG (Xb x t sp 0 (labF t r.start) bs).1.she),.p (.int .i64 (Xb x t sp 0 (labF t r.start) bs).2)]:=by
 have hsl:=hok.len;refine Zg [] Tryz.func249 rfl ZcF ?_;simp (disch:=omega) only [Tryz.f249,go_sem,seval];refine (HA x t r c sp).use (Zd ?_)
 refine Zl [2,4,6,13,14] (fun q:Nat×Lab=> [(15,.p (.int .i64 q.1))]) (fun q=> [Wm x t r c sp,.cells [.p (.bool false),.p (.int .i64 0),.p (.list true []),.p (.int .i64 0),.p (.int .i64 0)],Va q.2])
  (fun q=>q.1<=bs.length/\Xb x t sp 0 (labF t r.start) bs=Xb x t sp q.1 q.2 (bs.drop q.1)/\LabO sp.length q.1 q.2) (fun q=>bs.length-q.1) (0,labF t r.start) ⟨Zb,Zb,H6 hok hst⟩ (Weak.mk ?_) ?_
 ·simp (disch:=omega) only [Wm,Va,go_sem,seval]
 ·rintro ⟨k,L⟩ ⟨hk,hrun,hL⟩;simp only at hk hrun hL;simp (disch:=omega) only [Wm,Va,go_sem,seval];refine cD ?_ ?_<;>intro h1<;>simp (disch:=omega) only [Sh.out h1,go_sem,seval,↓reduceIte]
  ·have hk2:k<bs.length:=Za
   have hdrop:bs.drop k=nth bs k::bs.drop (k+1):=by rw [Ub hk2,Zi hk2]
   rw [hdrop,Xb] at hrun;have cn:=SX x t r c sp hok k Za hs1 L hL (nth bs k);have hL2:=H5 (x:=x) (t:=t) (b:=nth bs k) hok hs1 Za hL
   generalize nxtF x t sp k L (nth bs k)=N at *
   refine Yo cn (Zd ?_);refine Z1 ?_ ?_<;>intro h2
   ·rw [hrun,if_neg h2];exact we (by simp (disch:=omega) only [W6,zShe,Zk,go_sem,seval])
   ·rw [if_pos Za] at hrun;exact ⟨(k+1,N.1),⟨Za,hrun,hL2 Za⟩,Za,wk⟩
  ·have hkl:k=bs.length:=Za
   subst hkl;rw [UJ,Xb] at hrun;rw [hrun];exact we
theorem rS (l m:Lab):PC 271 [.p (JX l),.p (JX m)] (.bool (Xj l m)):=by
 refine Zc Tryz.func271 rfl Zc1 ?_;simp (disch:=omega) only [Tryz.f271,go_sem,seval];refine gT ?_ ?_<;>intro h<;>simp (disch:=omega) only [Sh.out h,go_sem,seval,↓reduceIte]
 ·simp [Xj,h]
 ·simp [Xj,h]
def gH (x:Inst) (t:Typ) (r:Rte) (c:Bool) (sp:List Stp) (o:List Lab) (f z:Lab):List AM.Obj:= [Wm x t r c sp,.dead,.elems 7 (o.map JX),Va f,Va z]
theorem tH (x:Inst) (t:Typ) (r:Rte) (c:Bool) (sp:List Stp) (o:List Lab) (f z m:Lab):ACalls Tryz.prog 270 [.p (JX m),.ptr 4 0] (gH x t r c sp o f z) fun y H'=>y= .p (.bool (Xj m z))/\H'=gH x t r c sp o f z:=by
 refine Zg [] Tryz.func270 rfl Zc0 ?_;simp (disch:=omega) only [Tryz.f270,gH,Wm,Va,go_sem,seval];refine (rS m z).use (Zd ?_);exact we
theorem PO (x:Inst) (t:Typ) (r:Rte) (c:Bool) (sp:List Stp) (o:List Lab) (f z:Lab) (hl:o.length<=2097152) :
  ACalls Tryz.prog 284 [.sl 2 0 o.length o.length,.fn (.func 270) [] [.ptr 4 0]] (gH x t r c sp o f z) fun y H'=>y= .p (.int .i64 (xZ (fun m=>Xj m z) o))/\H'=gH x t r c sp o f z:=by
 refine Zg [] Tryz.func284 rfl Zde ?_;simp (disch:=omega) only [Tryz.f284,gH,Wm,Va,go_sem,seval];refine Zl [0,1,7] (fun k:Nat=> [(8,.p (.int .i64 k))]) (fun _=>gH x t r c sp o f z) (fun k=>k<=o.length/\ ∀j,j<k->Xj (nth o j) z=false) (fun k=>o.length-k) 0 Zb (Weak.mk ?_) ?_
 ·simp (disch:=omega) only [gH,Wm,Va,go_sem,seval,↓reduceIte]
 ·rintro k ⟨hk,hno⟩;simp (disch:=omega) only [gH,Wm,Va,go_sem,seval];refine cD ?_ ?_<;>intro h<;>simp (disch:=omega) only [Sh.out h,go_sem,seval,↓reduceIte]
  ·have hk2:k<o.length:=Za
   have hg:=tH x t r c sp o f z (nth o k);simp (disch:=first | omega | (simp only [ZF,ZH,ZA,ZG,Xi,XL]<;>omega)) only [U0 hk2,hk2,go_sem,seval,↓reduceIte];simp (disch:=omega) only [gH,Wm,Va,go_sem,seval] at hg;refine hg.useH (Zd ?_);refine cD ?_ ?_<;>intro h2<;>simp (disch:=omega) only [Sh.out h2,go_sem,seval,↓reduceIte]
   ·rw [jX (f:=fun m=>Xj m z) hk2 h2 hno];exact we
   ·exact ⟨k+1,⟨Za,Zr.2 ⟨hno,Za⟩⟩,Za,wk⟩
  ·have hkl:k=o.length:=Za
   subst hkl;rw [jZ hno];exact we
theorem Hh (x:Inst) (t:Typ) (r:Rte) (c:Bool) (sp:List Stp) (o:List Lab) (f z:Lab) (hl:o.length<=2097152) :
  ACalls Tryz.prog 269 [.sl 2 0 o.length o.length,.fn (.func 270) [] [.ptr 4 0]] (gH x t r c sp o f z) fun y H'=>y= .p (.bool (o.any fun m=>Xj m z))/\H'=gH x t r c sp o f z:=by
 refine Zg [] Tryz.func269 rfl ZcZ ?_;simp (disch:=omega) only [Tryz.f269,go_sem,seval];refine (PO x t r c sp o f z hl).useH (Zd ?_);rw [jY];exact we (by simp (disch:=omega) only [gH,Wm,Va,go_sem,seval])
def aB (x:Inst) (t:Typ) (sp:List Stp) (r:List Bool) (k:Nat) (f:Lab) (bs:List Bool) (l:List Lab):List Lab:=bs.filterMap (Xr x t sp k f)++Vz (Xr x t sp) (UR r) k l
theorem ZaQ (x:Inst) (t:Typ) (r:Rte) (c:Bool) (sp:List Stp) (hok:TrpOk x t sp) (hs1:0<sp.length) (k:Nat) (hk:k<=sp.length) (hrl:r.rests.length<=1048576) (l:List Lab) (d:Bool) (hl:l.length<=1048576) (hL: ∀L∈l,LabO sp.length k L) :
  PC 248 [.p (Nb x t r c sp),.p (.list d (l.map JX)),.p (.int .i64 (k:Nat))] (.list false ((Yf Xj [] (Vz (Xr x t sp) (UR r.rests) k l)).map JX)):=by
 have hsl:=hok.len;refine Zg [2,16] Tryz.func248 rfl ZcE ?_;simp (disch:=omega) only [Tryz.f248,go_sem,seval];refine Zp (Weak.fz (o:=1) (by rfl)) (JK ?_);refine ZN [1,2,3] (fun cb:Bool=> [(7,.p (.list cb ((UR r.rests k).map eB)))]) (fun _=> [Wm x t r c sp,.dead]) (fun _=>True) ?_ ?_
 ·refine Zd ?_;refine Z1 ?_ ?_<;>intro h
  ·have hk2:k<r.rests.length:=Za
   have e:UR r.rests k=(r.rests.take (k+1)).drop k:=by
    grind [UR,Ya]
   exact ⟨r.rests_c&&decide ((k:Int)+1=(r.rests.length:Int)),Weak.mk (by simp (disch:=omega) only [Wm,e,go_sem,seval])⟩
  ·have e:UR r.rests k= [false,true]:=by grind [UR]
   exact ⟨false,Weak.mk (by simp (disch:=omega) only [Wm,e,Zs,Zk,go_sem,seval])⟩
 ·intro cb _
  have hch:(UR r.rests k).length<=2:=by grind [UR]
  refine Zh [16] _ _ _ _ ?_;simp (disch:=omega) only [Wm,go_sem,seval]
  refine Z0 [16] [2,3,7,29,30] (fun q:Nat×List Lab=> [(8,.sl 2 0 q.2.length q.2.length),(31,.p (.int .i64 q.1))]) (fun q=> [Wm x t r c sp,.dead,.elems 7 (q.2.map JX)])
   (fun q=>q.1<=l.length/\Yf Xj [] (Vz (Xr x t sp) (UR r.rests) k l)=Yf Xj q.2 (Vz (Xr x t sp) (UR r.rests) k (l.drop q.1))/\q.2.length<=2*q.1) (fun q=>l.length-q.1) (0,[]) Zb (Weak.ofNil 8 7 rfl Zb (Weak.mk ?_)) ?_
  ·simp (disch:=omega) only [Wm,Zk,ZH,go_sem,seval]
  ·rintro ⟨i,o⟩ ⟨hi,hpr,hol⟩;simp only at hi hpr hol;simp (disch:=omega) only [Wm,go_sem,seval];refine cD ?_ ?_<;>intro h1<;>simp (disch:=omega) only [Sh.out h1,go_sem,seval,↓reduceIte]
   ·have hi2:i<l.length:=Za
    have hLi:=hL _ (Z2 hi2)
    have hdrop:l.drop i=nth l i::l.drop (i+1):=by rw [Ub hi2,Zi hi2]
    rw [hdrop] at hpr;have hpr:Yf Xj [] (Vz (Xr x t sp) (UR r.rests) k l)=Yf Xj o (aB x t sp r.rests k (nth l i) ((UR r.rests k).drop 0) (l.drop (i+1))):=hpr
    refine Zl [2,3,7,10,29,30,31,35,36] (fun q:Nat×List Lab=> [(8,.sl 2 0 q.2.length q.2.length),(37,.p (.int .i64 q.1))]) (fun q=> [Wm x t r c sp,.dead,.elems 7 (q.2.map JX),Va (nth l i)])
     (fun q=>q.1<=(UR r.rests k).length/\Yf Xj [] (Vz (Xr x t sp) (UR r.rests) k l)=Yf Xj q.2 (aB x t sp r.rests k (nth l i) ((UR r.rests k).drop q.1) (l.drop (i+1)))/\q.2.length<=2*i+q.1) (fun q=>(UR r.rests k).length-q.1) (0,o) ⟨Zb,hpr,hol⟩ (Weak.mk ?_) ?_
    ·simp (disch:=omega) only [Wm,Va,go_sem,seval]
    ·clear hpr hol;rintro ⟨j,o⟩ ⟨hj,hpr,hol⟩;simp only at hj hpr hol;simp (disch:=omega) only [Wm,Va,go_sem,seval];refine Z1 ?_ ?_<;>intro h2
     ·have hj2:j<(UR r.rests k).length:=Za
      have hd2:(UR r.rests k).drop j=nth (UR r.rests k) j::(UR r.rests k).drop (j+1):=by rw [Ub hj2,Zi hj2]
      have cn:=SX x t r c sp hok k hk hs1 (nth l i) hLi (nth (UR r.rests k) j);have ho2:Xr x t sp k (nth l i) (nth (UR r.rests k) j)=if (nxtF x t sp k (nth l i) (nth (UR r.rests k) j)).2=0 then some (nxtF x t sp k (nth l i) (nth (UR r.rests k) j)).1 else none:=rfl;rw [hd2,aB,List.filterMap_cons,ho2] at hpr
      generalize nxtF x t sp k (nth l i) (nth (UR r.rests k) j)=N at *
      refine Yo cn (Zd ?_);refine Jr ?_ ?_<;>intro h3
      ·have hcl:=Hh x t r c sp o (nth l i) N.1 Za;simp (disch:=omega) only [gH,Wm,Va,go_sem,seval] at hcl;refine hcl.useH (Zd ?_);rw [if_pos h3] at hpr;have hpr:Yf Xj [] (Vz (Xr x t sp) (UR r.rests) k l)=if (o.any fun m=>Xj m N.1)=true then Yf Xj o (aB x t sp r.rests k (nth l i) ((UR r.rests k).drop (j+1)) (l.drop (i+1))) else Yf Xj (o++ [N.1]) (aB x t sp r.rests k (nth l i) ((UR r.rests k).drop (j+1)) (l.drop (i+1))):=hpr;refine Z1 ?_ ?_<;>intro h4
       ·rw [if_neg (by grind)] at hpr;exact ⟨(j+1,o++ [N.1]),⟨Za,hpr,by simp;omega⟩,Za,Weak.mk (by simp (disch:=omega) only [ZA,ZF,ZH,XC,Zs,Zk,go_sem,seval])⟩
       ·rw [if_pos (by grind)] at hpr;exact ⟨(j+1,o),⟨Za,hpr,by grind⟩,Za,wk⟩
      ·rw [if_neg h3] at hpr;exact ⟨(j+1,o),⟨Za,hpr,by grind⟩,Za,wk⟩
     ·have hjl:j=(UR r.rests k).length:=Za
      subst hjl;rw [UJ,aB,List.filterMap_nil,ZC] at hpr;exact ⟨(i+1,o),⟨Za,hpr,by grind⟩,Za,wk⟩
   ·have hil:i=l.length:=Za
    subst hil;have e:Vz (Xr x t sp) (UR r.rests) k []= []:=rfl;rw [UJ,e,Yf] at hpr;rw [hpr];refine Zp (Weak.fz (o:=2) (by rfl)) (Zh [] _ _ _ _ (JK ?_));exact we
def sK : PV:= .agg [.list true [],.list true [],.list true [],.list true [],.list true [],.list true [],.str [],.int .i64 0,.int .i64 0,.int .i64 0,.list true [],.int .i64 0,.int .i64 0,.int .i64 0,.int .i64 0,.int .i64 0,.int .i64 0,.int .i64 0,.int .i64 0,.int .i64 0,.int .i64 0,.int .i64 0,.list true [],.list true [],.list true []]
theorem vA (x:Inst) (r:Rte) (hty:0<=r.typ/\r.typ<(x.types.length:Int)) (htl:x.types.length<=1048576) (hvl:r.visits.length<=20) (hs: ¬(0<=r.start/\r.start<=4096)) :
  PT 246 [.p (Zu x),.p (WM r)] [.p sK,.p (.bool false)]:=by
 have e1: ¬r.typ<0:=Za
 have e2: ¬(x.types.length:Int)<=r.typ:=Za
 refine Zg [] Tryz.func246 rfl kT ?_;simp (disch:=omega) only [Tryz.f246,e1,e2,go_sem,seval];refine gF ?_ ?_<;>intro h1<;>simp (disch:=omega) only [Sh.out h1,go_sem,seval,↓reduceIte]
 ·exact we (by simp (disch:=omega) only [sK,go_sem,seval])
 ·refine gF ?_ ?_<;>intro h2<;>simp (disch:=omega) only [Sh.out h2,go_sem,seval,↓reduceIte]
  ·exact we (by simp (disch:=omega) only [sK,go_sem,seval])
  ·omega
theorem Oe {x t sp} : ∀(bs:List Bool) (k:Nat) (L:Lab),¬(Xb x t sp k L bs).2=0->(Xb x t sp k L bs).1=W6
 | [],k,L,h=>by simp [Xb] at h
 | b::bs,k,L,h=>by
  rw [Xb] at h ⊢
  split
  ·rename_i c;rw [if_pos c] at h;exact Oe bs (k+1) _ h
  ·rfl
theorem aR (n:Nat):List.replicate n false∈Y4 (List.replicate n false):=by
 rw [fromB_next];simp
theorem jR {l:List Lab} (h:W9 Wo none l=none):l= []:=by
 cases l with
 | nil=>rfl
 | cons a l =>
  obtain ⟨z,hz,_⟩:=VJ (fin:=Wo) l a;have:W9 Wo none (a::l)=W9 Wo (some a) l:=rfl
  grind
theorem T0 {x t sp} {st:Int} {r:List Bool} (h:W9 Wo none ((XD r (sp.length+1)).filterMap (We (Xr x t sp) 0 (labF t st)))=none): ¬(Xb x t sp 0 (labF t st) (YY r (sp.length+1))).2=0:=fun h0=>by
 have h1:=jR h;have h2:YY r (sp.length+1)∈XD r (sp.length+1):=Xw.2 ⟨_,aR _,rfl⟩
 simp_all [YF]
theorem Po {x t sp} {st:Int} {r:List Bool} (hr:r.length<=sp.length+1) (h:W9 Wo none (Ku Xj (Xr x t sp) (UR r) (sp.length+1) 0 [labF t st])=none): ¬(Xb x t sp 0 (labF t st) (YY r (sp.length+1))).2=0 :=
 T0 (by rw [H7,VT,HL r _ hr] at h;exact h)
def Jq (x:Inst) (r:Rte):She×Int:=if 0<=r.start/\r.start<=4096/\r.rests.length<=r.visits.length+1 then Xn x r else (zShe,2)
theorem gX {x t sp} {ch:Nat->List Bool} {k:Nat} {l:List Lab} (hok:TrpOk x t sp) (hs:0<sp.length) (hk:k<=sp.length) (h: ∀L∈l,LabO sp.length k L): ∀L∈Yf Xj [] (Vz (Xr x t sp) ch k l),LabO sp.length (k+1) L:=fun L hL=>by
 have h1:=AZ Xj _ _ L hL;rw [ZC] at h1;obtain ⟨a,ha,hb⟩:=X1.1 h1
 grind [Xr,H5]
theorem DV : ∀(c out:List Lab),(Yf Xj out c).length<=out.length+c.length
 | [],out=>by simp [Yf]
 | x::c,out=>by
  rw [Yf]
  split
  ·have:=DV c out;simp;omega
  ·have:=DV c (out++ [x]);simp at this ⊢;omega
theorem HC {x t sp} {r:List Bool} {k:Nat} : ∀l:List Lab,(Vz (Xr x t sp) (UR r) k l).length<=2*l.length
 | []=>by simp [Vz]
 | a::l=>by
  have ih:=HC (x:=x) (t:=t) (sp:=sp) (r:=r) (k:=k) l;have h1:(Vz (Xr x t sp) (UR r) k (a::l))=(UR r k).filterMap (Xr x t sp k a)++Vz (Xr x t sp) (UR r) k l:=rfl
  grind [UR]
theorem uQ (x:Inst) (r:Rte) (hx:InstOk x) (hl:r.visits.length<=1048576) (hrl:r.rests.length<=1048576) (hty:0<=r.typ/\r.typ<(x.types.length:Int)) (h0:Xf x r.visits=0) :
  PT 214 [.p (Zu x),.p (WM r)] [.p (FG (Jq x r).1),.p (.int .i64 (Jq x r).2)]:=by
 have hd:=QI hx;have hsq:=VW h0;have hol:=hd.ord;have htl:=hd.typ;have hvl:=hsq.len hol;have hok:=Ah hx hty hsq;have hsl:(ZI x r.visits).length=r.visits.length:=Ym
 have hs1:0<(ZI x r.visits).length:=by
  rw [hsl];have:=hsq.ne
  grind
 refine Zg [6,13,14] Tryz.func214 rfl Zb8 ?_;simp (disch:=omega) only [Tryz.f214,go_sem,seval]
 by_cases hs:0<=r.start/\r.start<=4096
 ·refine Yo (ZdQ x r hx hty h0 hs) (Zd ?_);refine cD ?_ ?_<;>intro h1<;>simp (disch:=omega) only [Sh.out h1,go_sem,seval,↓reduceIte]
  ·have e:Jq x r=(zShe,2):=by rw [Jq,if_neg Za]
   rw [e];exact we (by simp (disch:=omega) only [zShe,Zk,go_sem,seval])
  ·have hrs:r.rests.length<=r.visits.length+1:=Za
   have e:Jq x r=Xn x r:=by simp_all [Jq]
   have hbn:= @Po x (Zx x r) (ZI x r.visits) r.start r.rests Za;rw [e,Xn,I9 Za];refine (HA x (Zx x r) r false (ZI x r.visits)).use (Zd ?_)
   generalize hT:Zx x r=t at *
   generalize hS:ZI x r.visits=sp at *
   refine Zp (Weak.fz (o:=4) (by rfl)) ?_;refine Zh [13,14] _ _ _ _ (Zd ?_)
   refine Z0 [13,14] [3,4,6,8,38] (fun q:Nat×List Lab=> [(9,.p (.list false (q.2.map JX))),(39,.p (.int .i64 q.1))]) (fun _=> [Ze x,Xy r,.cells [.p (.bool false),.p (.int .i64 0),.p (.list true []),.p (.int .i64 0),.p (.int .i64 0)],Wm x t r false sp,.dead])
    (fun q=>q.1<=sp.length+1/\Ku Xj (Xr x t sp) (UR r.rests) (sp.length+1) 0 [labF t r.start]=Ku Xj (Xr x t sp) (UR r.rests) (sp.length+1-q.1) q.1 q.2/\(∀L∈q.2,LabO sp.length q.1 L)/\q.2.length<=2^q.1) (fun q=>sp.length+1-q.1) (0,[labF t r.start]) ⟨Zb,Zb,fun L hL=>by grind [H6],Zb⟩ (Weak.mk ?_) ?_
   ·simp (disch:=omega) only [Ze,Xy,Wm,Zs,Zk,ZY,ZL,go_sem,seval]
   ·rintro ⟨k,l⟩ ⟨hk,hit,hlo,hll⟩;simp only at hk hit hlo hll;simp (disch:=omega) only [Ze,Xy,Wm,go_sem,seval];refine cD ?_ ?_<;>intro h2<;>simp (disch:=omega) only [Sh.out h2,go_sem,seval,↓reduceIte]
    ·have hk2:k<=sp.length:=Za
     have hp20:2^k<=2^20:=YB Za Za;refine (ZaQ x t r false sp hok hs1 k hk2 hrl l false Za hlo).use (Zd ?_)
     have hn:Ku Xj (Xr x t sp) (UR r.rests) (sp.length+1-k) k l=Ku Xj (Xr x t sp) (UR r.rests) (sp.length+1-(k+1)) (k+1) (Yf Xj [] (Vz (Xr x t sp) (UR r.rests) k l)):=by
      have e:sp.length+1-k=(sp.length+1-(k+1))+1:=Za
      rw [e,Ku]
     have hln:=DV (Vz (Xr x t sp) (UR r.rests) k l) [];have hln2:=HC (x:=x) (t:=t) (sp:=sp) (r:=r.rests) (k:=k) l;exact ⟨(k+1,Yf Xj [] (Vz (Xr x t sp) (UR r.rests) k l)),⟨Za,hit.trans hn,gX hok hs1 hk2 hlo,by grind⟩,Za,Weak.mk (by simp (disch:=omega) only [ZY,ZL,go_sem,seval])⟩
    ·have hkn:k=sp.length+1:=Za
     subst hkn;rw [Ka,Ku] at hit;rw [hit] at hbn ⊢;clear hit;refine cD ?_ ?_<;>intro h3<;>simp (disch:=omega) only [Sh.out h3,go_sem,seval,↓reduceIte]
     ·have hl0:l= []:=YK Za;subst hl0;have hbn:=hbn rfl;refine WC (EI 3 rfl rfl (Zd ?_));refine ⟨_,_,NW (e:=4) rfl Tryz.underlying31 Zf rfl rfl rfl ?_ ?_ ?_,?_⟩
      ·simp
      ·simp;omega
      ·intro q hq;obtain ⟨b,_,rfl⟩:=Xw.1 hq
       rfl
      ·have hpl:(YY r.rests (sp.length+1)).length=sp.length+1:=by simp [YY];omega
       have hpad:r.rests.map eB++(PV.bool false::List.replicate r.visits.length (PV.bool false)).drop (r.rests.map eB).length=(YY r.rests (sp.length+1)).map eB:=by
        rw [YY,XC,<- KU,List.drop_replicate,AE,hsl,ZG];rfl
       have hcr:=ZkQ x t r false sp hok hs1 hs (YY r.rests (sp.length+1)) false hpl;have hbad:=Oe _ _ _ hbn;rw [hbad] at hcr;simp only [ZY,ZL];rw [hpad]
       generalize hRP:YY r.rests (sp.length+1)=rp at *
       refine Zp (Weak.fz (o:=5) (by rfl)) (Zh [] _ _ _ _ (JK ?_));rw [if_pos Za];refine Yo hcr (Zd ?_);have hfm0:W9 Wo none ([]:List Lab)=none:=rfl;rw [hfm0];exact we (by simp (disch:=omega) only [W6,zShe,Zk,go_sem,seval])
     ·cases l with
      | nil=>simp at h3
      | cons l0 l =>
       have e0:KO ((l0::l).map JX) 0=JX l0:=rfl;have hn0:nth (l0::l) 0=l0:=rfl;simp (disch:=first | omega | (simp only [ZF,ZH,ZA,ZG,Xi,XL]<;>omega)) only [hn0,X7,go_sem,seval];have hfm:W9 Wo none (l0::l)=W9 Wo (some l0) l:=rfl;rw [hfm]
       have hlen:l.length<=2097152:=by
        have hp20:2^(sp.length+1)<=2^21:=YB Za Za
        grind
       refine Zl [4,12,65,66] (fun q:Nat×Lab=> [(67,.p (.int .i64 q.1))]) (fun q=> [Ze x,Xy r,.cells [.p (.bool false),.p (.int .i64 0),.p (.list true []),.p (.int .i64 0),.p (.int .i64 0)],Wm x t r false sp,.dead,Va q.2])
        (fun q=>q.1<=l.length/\W9 Wo (some l0) l=W9 Wo (some q.2) (l.drop q.1)) (fun q=>l.length-q.1) (0,l0) Zb (Weak.mk ?_) ?_
       ·simp (disch:=omega) only [Ze,Xy,Wm,Va,go_sem,seval]
       ·rintro ⟨i,m⟩ ⟨hi,hm⟩;simp only at hi hm;simp (disch:=omega) only [Ze,Xy,Wm,Va,go_sem,seval];refine cD ?_ ?_<;>intro h4<;>simp (disch:=omega) only [Sh.out h4,go_sem,seval,↓reduceIte]
        ·have hi2:i<l.length:=Za
         have hdrop:l.drop i=nth l i::l.drop (i+1):=by rw [Ub hi2,Zi hi2]
         rw [hdrop,W9] at hm;refine Z1 ?_ ?_<;>intro h5
         ·rw [if_pos (show Wo (nth l i)<Wo m from h5)] at hm;exact ⟨(i+1,nth l i),⟨Za,hm⟩,Za,wk⟩
         ·rw [if_neg (show ¬Wo (nth l i)<Wo m from h5)] at hm;exact ⟨(i+1,m),⟨Za,hm⟩,Za,wk⟩
        ·have hil:i=l.length:=Za
         subst hil;rw [UJ,W9] at hm;rw [hm];exact we
 ·have e:Jq x r=(zShe,2):=by rw [Jq,if_neg (fun h=>hs ⟨h.1,h.2.1⟩)]
  rw [e];refine Yo (vA x r hty htl hvl hs) ?_;simp (disch:=omega) only [sK,go_sem,seval];exact we (by simp (disch:=omega) only [zShe,Zk,go_sem,seval])
end Go.Proofs.YtjkkdmeebhjaiaaGreatDoor.K
namespace Go.AM
open Go.RowKit
theorem lS (k v:Int) (l:List (Int×Int)): ∃l',lR (.int .i64 k) (.int .i64 v) (l.map eII)=l'.map eII/\(∀q,KY l' q=if q=k then v else KY l q)/\l'.length<=l.length+1:=by
 unfold lR;rw [DO]
 cases hm:Ig l k with
 | none =>
  refine ⟨l++ [(k,v)],by simp [eII],fun q=> ?_,Zb⟩
  have e1:Ig (l++ [(k,v)]) k=some l.length:=by
   grind [Ig]
  by_cases hq:q=k
  ·grind [KY]
  ·rw [if_neg hq];unfold KY
   have e3:Ig (l++ [(k,v)]) q=Ig l q:=by
    grind [Ig]
   rw [e3]
   cases hc:Ig l q with
   | none=>rfl
   | some i =>
    unfold Ig at hc
    grind [Ua]
 | some i =>
  refine ⟨l.set i (k,v),by simp_all [eII],?_,Zb⟩;have hH:oat [.map (l.map eII)] 0= .map (l.map eII):=rfl;have:=P1 (H:= [.map (l.map eII)]) (o:=0) (l:=l) (k:=k) (i:=i) (v:=v) (K:=fun _ _=> ∀q,KY (l.set i (k,v)) q=if q=k then v else KY l q) hH hm fun h=>h;unfold An at this;obtain ⟨u,q1,_⟩:=F7 hm
  simp_all [Bp]
theorem lU {P:Program} {H:List Obj} {t:TypeId} {o:Nat} {l:List (Int×Int)} {k v:Int} {K:V->List Obj->Prop} (hT:lK P t=some (.int .i64,some (.int .i64 0))) (hH:oat H o= .map (l.map eII))
  (h: ∀l':List (Int×Int),(∀q,KY l' q=if q=k then v else KY l q)->K .junk (H.set o (.map (l'.map eII)))):Bp (Ee P H t (.mp o) (.p (.int .i64 k)) (.p (.int .i64 v))) K:=by
 obtain ⟨kt,et,h1,h2,h3⟩:=NJ hT;obtain ⟨l',e,hg,_⟩:=lS k v l
 grind [Ee,H9,Bp]
end Go.AM
namespace Go.Proofs.YtjkkdmeebhjaiaaGreatDoor.K
open Go Go.AM Go.Proofs
set_option maxRecDepth 8000
set_option maxHeartbeats 8000000
def FF (l:List Vis) (k:Nat) (q:Int):Int:=((l.take k).countP fun v=>decide (v.order=q):Nat)
theorem aC {l:List Vis} {k:Nat} (h:k<l.length) (q:Int):FF l (k+1) q=if q=(nth l k).order then FF l k q+1 else FF l k q:=by
 unfold FF;rw [Ya h,List.countP_append,Zi h]
 grind
theorem iN {l:List Vis} {k:Nat} (h:k<=l.length) (q:Int):0<=FF l k q/\FF l k q<=k:=by
 grind [FF,Xi]
theorem Pz {l:List Vis} {k:Nat} :UE l k=decide (FF l k (nth l k).order=0):=by
 unfold UE FF;rw [Wx];simp
theorem BK (a b:Int):PC 250 [.p (.int .i64 a),.p (.int .i64 b)] (.bool (Xu a b)):=by
 refine Zc Tryz.func250 rfl ZcG ?_;simp (disch:=omega) only [Tryz.f250,go_sem,seval];refine gT ?_ ?_<;>intro h<;>simp (disch:=omega) only [Sh.out h,go_sem,seval,↓reduceIte]
 ·simp [Xu,h]
 simp_all [Xu]
theorem mS (x:Inst) (r:Rte) (s:She) (hty:0<=r.typ/\r.typ<(x.types.length:Int)) (ho:x.orders.length<=1048576) (ht:x.types.length<=1048576) (hl:r.visits.length<=1048576) (hv:Inr x r.visits)
  (hc:0<=(Zx x r).fixed/\(Zx x r).fixed<=100000/\0<=(Zx x r).perMile/\(Zx x r).perMile<=100/\0<=(Zx x r).perTick/\(Zx x r).perTick<=100) (ho2:0<=(Zx x r).opn/\(Zx x r).opn<=4096)
  (hf: -4096<=s.fin/\s.fin<=8192) (hm:0<=s.miles/\s.miles<=1000000) :
  PC 215 [.p (Zu x),.p (WM r),.p (FG s)] (EB (Db x r s)):=by
 have hti:r.typ.toNat<x.types.length:=Za
 have hT:lK Tryz.prog 306=some (.int .i64,some (.int .i64 0)):=Zf
 unfold Db;have htd:nth x.types r.typ.toNat=Zx x r:=rfl
 generalize Zx x r=t at *
 have e1: ¬r.typ<0:=Za
 have e2: ¬(x.types.length:Int)<=r.typ:=Za
 have p1:0<=t.perMile*s.miles/\t.perMile*s.miles<=100*1000000:=⟨UL Za Za,VO Za Za Za Za⟩
 have hW: -8192<=s.fin-t.opn/\s.fin-t.opn<=8192:=Za
 have p2: -819200<=t.perTick*(s.fin-t.opn)/\t.perTick*(s.fin-t.opn)<=819200:=by
  generalize s.fin-t.opn=w at hW;have a1:=BG hW.2 (show 0<=t.perTick by omega);have a2:=BG hW.1 (show 0<=t.perTick by omega);omega
 have p3: -128<=(s.fin-t.opn).tdiv 64/\(s.fin-t.opn).tdiv 64<=128:=by
  grind
 have p4:0<=(s.fin-t.opn).tdiv 64*(s.fin-t.opn).tdiv 64/\(s.fin-t.opn).tdiv 64*(s.fin-t.opn).tdiv 64<=16384:=by
  generalize (s.fin-t.opn).tdiv 64=q at p3;refine ⟨?_,?_⟩
  ·rcases AO 0 q with h | h
   ·exact UL h h
   ·exact Int.mul_nonneg_of_nonpos_of_nonpos h h
  ·rcases AO 0 q with h | h
   ·have:=VO p3.2 p3.2 h Za;omega
   ·have h2:0<= -q:=Za
    have:=VO (show-q<=128 by omega) (show-q<=128 by omega) h2 Za
    grind
 refine Zc Tryz.func215 rfl Zb9 ?_;simp (disch:=omega) only [Tryz.f215,e1,e2,htd,go_sem,seval]
 refine Zl [3,4,6,10,11,59,60] (fun q:Nat×List (Int×Int)=> [(61,.p (.int .i64 q.1))]) (fun q=> [Ze x,Xy r,.cells [.p (.bool s.rest),.p (.int .i64 s.dep),.p (.list s.times_c (s.times.map eTim)),.p (.int .i64 s.fin),.p (.int .i64 s.miles)],Dd 0 0 0 0,X9 t,Dd (t.fixed+t.perMile*s.miles+t.perTick*(s.fin-t.opn)) (chgF x r.visits r.typ q.1).1 (chgF x r.visits r.typ q.1).2 ((s.fin-t.opn).tdiv 64*(s.fin-t.opn).tdiv 64),.map (q.2.map eII)])
  (fun q=>q.1<=r.visits.length/\ ∀n,KY q.2 n=FF r.visits q.1 n) (fun q=>r.visits.length-q.1) (0,[]) ⟨Zb,fun n=>rfl⟩ (Weak.mk ?_) ?_
 ·simp (disch:=omega) only [Ze,Xy,X9,Dd,chgF,go_sem,seval]
 ·rintro ⟨k,m⟩ ⟨hk,hmg⟩;simp only at hk hmg;have hch:=Cc (x:=x) (l:=r.visits) (t:=r.typ) k;simp (disch:=omega) only [Ze,Xy,X9,Dd,go_sem,seval];refine cD ?_ ?_<;>intro h1<;>simp (disch:=omega) only [Sh.out h1,go_sem,seval,↓reduceIte]
  ·have hk2:k<r.visits.length:=Za
   obtain ⟨v1,v2⟩:=hv _ (Zt hk2)
   have e3: ¬(nth r.visits k).order<0:=Za
   have e4: ¬(x.orders.length:Int)<=(nth r.visits k).order:=Za
   have v3:(nth r.visits k).order.toNat<x.orders.length:=Za
   have hcs:=aC hk2;have hcr:=iN hk (nth r.visits k).order;have hfi:=Pz (l:=r.visits) (k:=k);have hch2:chgF x r.visits r.typ (k+1)=_:=chgF.eq_2 x r.visits r.typ k;refine NH hT rfl ?_;rw [hmg];refine Zd ?_;refine lU hT rfl fun m' hm'=> ?_
   have hmg': ∀n,KY m' n=FF r.visits (k+1) n:=fun n=>by grind
   simp (disch:=omega) only [e3,e4,ZY,ZL,go_sem,seval];refine NH hT rfl ?_;rw [hm',if_pos rfl];refine Zd ?_;refine Z1 ?_ ?_<;>intro h2
   ·have h3: ¬UE r.visits k=true:=by grind
    rw [if_neg h3] at hch2;exact ⟨(k+1,m'),⟨Za,hmg'⟩,Za,Weak.mk (by simp (disch:=omega) only [hch2,go_sem,seval])⟩
   ·have h3:UE r.visits k=true:=by grind
    rw [if_pos h3] at hch2;refine (BK (nth x.orders (nth r.visits k).order.toNat).now r.typ).use (Zd ?_);refine cD ?_ ?_<;>intro h4<;>simp (disch:=omega) only [Sh.out h4,go_sem,seval,↓reduceIte]
    ·rw [if_pos h4] at hch2;refine (BK (nth x.orders (nth r.visits k).order.toNat).last r.typ).use (Zd ?_);refine Z1 ?_ ?_<;>intro h5
     ·rw [if_pos h5] at hch2;exact ⟨(k+1,m'),⟨Za,hmg'⟩,Za,Weak.mk (by simp (disch:=omega) only [hch2,go_sem,seval])⟩
     ·rw [if_neg (by rw [h5];simp)] at hch2;exact ⟨(k+1,m'),⟨Za,hmg'⟩,Za,Weak.mk (by simp (disch:=omega) only [hch2,UN,go_sem,seval])⟩
    ·rw [if_neg (by rw [h4];simp)] at hch2;refine (BK (nth x.orders (nth r.visits k).order.toNat).last r.typ).use (Zd ?_);refine Z1 ?_ ?_<;>intro h5
     ·rw [if_pos h5] at hch2;exact ⟨(k+1,m'),⟨Za,hmg'⟩,Za,Weak.mk (by simp (disch:=omega) only [hch2,UN,go_sem,seval])⟩
     ·rw [if_neg (by rw [h5];simp)] at hch2;exact ⟨(k+1,m'),⟨Za,hmg'⟩,Za,Weak.mk (by simp (disch:=omega) only [hch2,UN,go_sem,seval])⟩
  grind
end Go.Proofs.YtjkkdmeebhjaiaaGreatDoor.K
namespace Go.Proofs.YtjkkdmeebhjaiaaGreatDoor.K
open Go Go.AM Go.Proofs
set_option maxRecDepth 8000
set_option maxHeartbeats 8000000
@[go_sem] theorem Zft {f:FuncId} :(PV.fn f).cells= [.fn f]:=Zm rfl rfl
def Zd5 : AM.Obj:= .cells [.p (.bool false),.p (.int .i64 0),.p (.list true []),.p (.int .i64 0),.p (.int .i64 0)]
theorem PD (x:Inst) (r:Rte) (hx:InstOk x) (hl:r.visits.length<=1048576) (hrl:r.rests.length<=1048576):ACalls Tryz.prog 195 [.p (Zu x),.p (WM r)] [] fun y H'=>y=Ci x r/\H'= []:=by
 have hld:=QI hx;have htl:=hld.typ;have hol:=hld.ord;have chk:=mT x r hx hl
 have htb:x.types.length<=6:=by have:=hx.types.1;simp only [rng,Zq] at this;omega
 refine Zg [] Tryz.func195 rfl ZbT ?_;simp (disch:=omega) only [Tryz.f195,go_sem,seval];refine gF ?_ ?_<;>intro h1<;>simp (disch:=omega) only [Sh.out h1,go_sem,seval,↓reduceIte]
 ·have e:XI x r=2:=by rw [XI,if_pos Za]
  rw [YM (e:=2) (by rw [Xo,e];rfl) Za];exact we (by simp (disch:=omega) only [zShe,zSco,Zk,go_sem,seval])
 ·refine cD ?_ ?_<;>intro h2<;>simp (disch:=omega) only [Sh.out h2,go_sem,seval,↓reduceIte]
  ·have e:XI x r=2:=by simp_all [XI]
   rw [YM (e:=2) (by rw [Xo,e];rfl) Za];exact we (by simp (disch:=omega) only [zShe,zSco,Zk,go_sem,seval])
  ·have hty:0<=r.typ/\r.typ<(x.types.length:Int):=Za
   have hti:r.typ.toNat<x.types.length:=Za
   have hnum:=WY hx hti;have htyp:nth x.types r.typ.toNat=Zx x r:=rfl;rw [htyp] at hnum
   have hsk: ∀o∈x.orders,o.skills<9223372036854775808:=fun o hm=>by
    obtain ⟨i,hi,rfl⟩:=ZS.1 hm;have:=(hx.orders.2 i hi).skills
    grind [Zi]
   refine Zl [2,3,4,5,25,26] (fun k:Nat=> [(27,.p (.int .i64 k))]) (fun _=> [Ze x,Xy r,Zd5,Dd 0 0 0 0,.elems 1 [.fn 211,.fn 212,.fn 213]])
    (fun k=>k<=3/\(0<k->Xf x r.visits=0)/\(1<k-> ¬(r.visits.any fun v=> !Yg (Zx x r) (nth x.orders v.order.toNat).skills)=true)/\(2<k->VA x (Zx x r).cap r.visits=true)) (fun k=>3-k) 0 ⟨Za,Za,Za,Za⟩ (Weak.mk ?_) ?_
   ·simp (disch:=omega) only [Ze,Xy,Dd,Zd5,go_sem,seval]
   ·rintro k ⟨hk,k1,k2,k3⟩;simp (disch:=omega) only [Ze,Xy,Dd,Zd5,go_sem,seval];refine cD ?_ ?_<;>intro h3<;>simp (disch:=omega) only [Sh.out h3,go_sem,seval,↓reduceIte]
    ·by_cases hk0:k=0
     ·subst hk0;have he:KO [PV.fn 211,PV.fn 212,PV.fn 213] 0=PV.fn 211:=rfl;simp (disch:=first | omega | (simp only [ZF,ZH,ZA,ZG,Xi,XL]<;>omega)) only [he,go_sem,seval,↓reduceIte];refine (chk).use (Zd ?_);refine Z1 ?_ ?_<;>intro h4
      ·have e:XI x r=Xf x r.visits:=by simp_all [XI]
       rw [YM (e:=Xf x r.visits) (by simp_all [Xo]) h4];exact we (by simp (disch:=omega) only [zShe,zSco,Zk,go_sem,seval])
      ·exact ⟨1,⟨Za,fun _=>Za,Za,Za⟩,Za,wk⟩
     ·have h0:=k1 Za;have hsq:=VW h0
      have hr0:XI x r=if (r.visits.any fun v=> !Yg (Zx x r) (nth x.orders v.order.toNat).skills)=true then 18 else if VA x (Zx x r).cap r.visits=false then 17 else if ¬(0<=r.start/\r.start<=4096/\r.rests.length<=r.visits.length+1) then 2 else 0:=by
       rw [XI,if_neg (fun h=>h hty),if_neg Za]
      by_cases hk1:k=1
      ·subst hk1;have he:KO [PV.fn 211,PV.fn 212,PV.fn 213] 1=PV.fn 212:=rfl;simp (disch:=first | omega | (simp only [ZF,ZH,ZA,ZG,Xi,XL]<;>omega)) only [he,go_sem,seval,↓reduceIte];refine (mR x r hty (fun v hv=>by have:=hsq.inr v hv;grind [Ny]) hl htl Za Za hsk).use (Zd ?_)
       by_cases h5:(r.visits.any fun v=> !Yg (Zx x r) (nth x.orders v.order.toNat).skills)=true
       ·rw [if_pos h5] at hr0 ⊢;rw [YM (e:=18) (by rw [Xo,hr0];rfl) Za];refine Zd ?_;exact we (by simp (disch:=omega) only [zShe,zSco,Zk,go_sem,seval])
       ·rw [if_neg h5];refine Zd ?_;exact ⟨2,⟨Za,fun _=>h0,fun _=>h5,Za⟩,Za,wk⟩
      ·have hk2:k=2:=Za
       subst hk2;have he:KO [PV.fn 211,PV.fn 212,PV.fn 213] 2=PV.fn 213:=rfl;simp (disch:=first | omega | (simp only [ZF,ZH,ZA,ZG,Xi,XL]<;>omega)) only [he,go_sem,seval,↓reduceIte];refine (mO x r hx hl hty h0).use (Zd ?_);rw [if_neg (k2 Za)] at hr0
       cases h5:VA x (Zx x r).cap r.visits with
       | false =>
        rw [if_pos h5] at hr0;rw [YM (e:=17) (by rw [Xo,hr0];rfl) Za];simp only [Y6,Ye];refine Zd ?_;exact we (by simp (disch:=omega) only [zShe,zSco,Zk,go_sem,seval])
       | true =>
        simp only [if_true];refine Zd ?_;exact ⟨3,⟨Za,fun _=>h0,fun _=>k2 Za,fun _=>Zb⟩,Za,wk⟩
    ·have hk3:k=3:=Za
     subst hk3;have h0:=k1 Za;have hsq:=VW h0
     have hr0:XI x r=if ¬(0<=r.start/\r.start<=4096/\r.rests.length<=r.visits.length+1) then 2 else 0:=by
      rw [XI,if_neg (fun h=>h hty),if_neg Za,if_neg (k2 Za),if_neg (by grind)]
     have cb:=uQ x r hx hl hrl hty h0;have hok:=Ah hx hty hsq
     have hbr:Jq x r=Xn x r->(Xn x r).2=0->(0<=r.start/\r.start<=4096/\r.rests.length<=r.visits.length+1)->(0<=(Xn x r).1.fin/\(Xn x r).1.fin<=8192)/\(0<=(Xn x r).1.miles/\(Xn x r).1.miles<=210000):=fun _ hz hs =>
      FA hok ⟨hs.1,hs.2.1⟩ (by grind [Ym]) hz
     by_cases h6:0<=r.start/\r.start<=4096/\r.rests.length<=r.visits.length+1
     ·have e:XI x r=0:=Za
      have ee:Xo x r=(Xn x r).2:=by rw [Xo,if_pos e]
      have eb:Jq x r=Xn x r:=by rw [Jq,if_pos h6]
      have hbr:=fun hz=>hbr eb hz h6;rw [eb] at cb
      have es:Yc x r=if (Xn x r).2=0 then (Xn x r).1 else zShe:=by rw [Yc,ee]
      have ep:Wf x r=if (Xn x r).2=0 then Db x r (Xn x r).1 else zSco:=by rw [Wf,ee]
      unfold Ci;rw [ee,es,ep];clear ee es ep eb
      generalize Xn x r=q at *
      obtain ⟨sh,eb⟩:=q;simp only at cb hbr ⊢;refine Yo cb (Zd ?_);refine cD ?_ ?_<;>intro h7<;>simp (disch:=omega) only [Sh.out h7,go_sem,seval,↓reduceIte]
      ·exact we (by simp (disch:=omega) only [zShe,zSco,Zk,go_sem,seval])
      ·have h7':eb=0:=Za
       try rw [if_pos h7',if_pos h7']
       subst h7';obtain ⟨g1,g2⟩:=hbr rfl;refine ZE 5 mixed Zf Zf (Zd ?_);refine Zo (mS x r sh hty Za htl hl hsq.inr hnum.2.2.2.1 Za Za Za) (Zd ?_);exact we
     ·have e:XI x r=2:=Za
      have eb:Jq x r=(zShe,2):=by rw [Jq,if_neg h6]
      rw [YM (e:=2) (by rw [Xo,e];rfl) Za];rw [eb] at cb;refine Yo cb (Zd ?_);exact we (by simp (disch:=omega) only [zShe,zSco,Zk,go_sem,seval])
theorem Uo {x:Inst} {r:Rte} (h:Xo x r=0):XI x r=0:=by
 grind [Xo]
theorem Qd {x:Inst} {r:Rte} (h:XI x r=0):(0<=r.typ/\r.typ<(x.types.length:Int))/\Xf x r.visits=0/\(0<=r.start/\r.start<=4096/\r.rests.length<=r.visits.length+1):=by
 unfold XI at h;omega
theorem Nc {x:Inst} {r:Rte} (hx:InstOk x) (h:Xo x r=0):(0<=(Yc x r).fin/\(Yc x r).fin<=8192)/\(0<=(Yc x r).miles/\(Yc x r).miles<=210000):=by
 obtain ⟨hty,h0,hs⟩:=Qd (Uo h)
 have e:Yc x r=(Xn x r).1:=by rw [Yc,if_pos h]
 have ee:(Xn x r).2=0:=by rw [Xo,if_pos (Uo h)] at h;exact h
 rw [e];exact FA (Ah hx hty (VW h0)) ⟨hs.1,hs.2.1⟩ (by grind [Ym]) ee
end Go.Proofs.YtjkkdmeebhjaiaaGreatDoor.K
