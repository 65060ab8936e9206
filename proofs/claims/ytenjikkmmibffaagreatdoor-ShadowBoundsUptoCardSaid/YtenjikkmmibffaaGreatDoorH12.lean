/- Declarations that the closing texts need, part 12: joined by tools/slim.py. -/
import Derived.Test.YtenjikkmmibffaaGreatDoorH11
set_option linter.unusedVariables false
set_option linter.unusedSimpArgs false
namespace Go.Proofs.YtenjikkmmibffaaGreatDoor.K
section
variable {L : Type} (fin : L -> Int) (beats : L -> L -> Bool) (nxt : Nat -> L -> Bool -> Option L) (choices : Nat -> List Bool)
def Vb : Option L->List L->Option L
 | b,[]=>b
 | none,x::l=>Vb (some x) l
 | some m,x::l=>if fin x<fin m then Vb (some x) l else Vb (some m) l
theorem AG : ∀(b:Option L) (l r:List L),Vb fin b (l++r)=Vb fin (Vb fin b l) r
 | b,[],r=>by rfl
 | none,x::l,r=>by rw [ZO,Vb,Vb,AG]
 | some m,x::l,r=>by
  rw [ZO,Vb,Vb]
  split
  ·rw [AG]
  ·rw [AG]
theorem VJ : ∀(l:List L) (m:L),∃z,Vb fin (some m) l=some z/\fin z<=fin m/\ ∀y∈l,fin z<=fin y
 | [],m=>⟨m,rfl,Za,Zb⟩
 | x::l,m=>by
  rw [Vb]
  split
  ·rename_i h;obtain ⟨z,e,h1,h2⟩:=VJ l x
   grind
  ·rename_i h;obtain ⟨z,e,h1,h2⟩:=VJ l m
   grind
theorem NI : ∀(l:List L) (m:L),(∀y∈l,fin m<=fin y)->Vb fin (some m) l=some m
 | [],m,_=>rfl
 | x::l,m,h=>by
  have:=h x List.mem_cons_self;rw [Vb,if_neg Za];exact NI l m fun y hy=>h y (XL _ hy)
theorem bP (A B:List L) (h: ∀y∈B,∃z∈A,fin z<=fin y):Vb fin none (A++B)=Vb fin none A:=by
 rw [AG]
 cases A with
 | nil=>cases B with
  | nil=>rfl
  | cons y B=>grind [List.mem_cons_self]
 | cons a A =>
  rw [Vb];obtain ⟨z,e,h1,h2⟩:=VJ fin A a;rw [e];refine NI fin B z fun y hy=> ?_
  grind
def Yf : List L->List L->List L
 | out,[]=>out
 | out,x::l=>if out.any (fun m=>beats m x)=true then Yf out l else Yf (out++ [x]) l
theorem DM {R:L->List L} : ∀(c out:List L),(∀x∈out++c,∀m∈out++c,beats m x=true-> ∀y∈R x,∃z∈R m,fin z<=fin y)->Vb fin none ((Yf beats out c).flatMap R)=Vb fin none ((out++c).flatMap R)
 | [],out,_=>by simp [Yf]
 | x::c,out,h=>by
  rw [Yf]
  split
  ·rename_i hb;obtain ⟨m,hm,hb⟩:=Wx.1 hb
   have hb:beats m x=true:=by simpa using hb
   rw [DM c out (fun a ha b hb=>h a (by simp only [Xj,Z4] at ha ⊢;rcases ha with h | h<;>simp [h]) b (by simp only [Xj,Z4] at hb ⊢;rcases hb with h | h<;>simp [h]))];rw [List.flatMap_append,List.flatMap_append,Qq,<- QQ,AG,AG (l:=out.flatMap R++R x)];rw [bP fin (out.flatMap R) (R x)];intro y hy;obtain ⟨z,hz,hle⟩:=h x Zb m (by simp [hm]) hb y hy;exact ⟨z,XS.2 ⟨m,hm,hz⟩,hle⟩
  ·rw [DM c (out++ [x]) (by simpa using h)];simp
theorem A8 : ∀(c out:List L),∀x∈Yf beats out c,x∈out++c
 | [],out,x,h=>by grind [Yf]
 | a::c,out,x,h=>by
  rw [Yf] at h
  split at h
  ·have:=A8 c out x h;simp only [Xj,Z4] at this ⊢;rcases this with h | h<;>simp [h]
  ·have:=A8 c (out++ [a]) x h;simpa using this
def LK : Nat->Nat->List (List Bool)
 | 0,_=> [[]]
 | j+1,k=>(choices k).flatMap fun b=>(LK j (k+1)).map (b:: ·)
def Wi : Nat->L->List Bool->Option L
 | _,x,[]=>some x
 | k,x,b::bs=>match nxt k x b with
  | some y=>Wi (k+1) y bs
  | none=>none
def VV (j k:Nat) (x:L):List L:=(LK choices j k).filterMap (Wi nxt k x)
def Vx (k:Nat) (l:List L):List L:=l.flatMap fun x=>(choices k).filterMap (nxt k x)
def KA : Nat->Nat->List L->List L
 | 0,_,l=>l
 | j+1,k,l=>KA j (k+1) (Yf beats [] (Vx nxt choices k l))
theorem RI (k:Nat) (x:L):VV nxt choices 0 k x= [x]:=rfl
theorem GM (j k:Nat) (x:L):VV nxt choices (j+1) k x=((choices k).filterMap (nxt k x)).flatMap (VV nxt choices j (k+1)):=by
 unfold VV;rw [LK]
 induction choices k with
 | nil=>rfl
 | cons b bs ih =>
  rw [Qq,List.filterMap_append,ih,List.filterMap_cons]
  cases h:nxt k x b with
  | none =>
   simp_all [Wi]
  | some y =>
   rw [List.filterMap_map]
   have:(Wi nxt k x∘fun l=>b::l)=Wi nxt (k+1) y:=by grind [Wi]
   grind
theorem IF {n:Nat} {Inv:Nat->L->Prop} (hI: ∀k x b y,Inv k x->nxt k x b=some y->Inv (k+1) y) (hd: ∀k m x b y,Inv k m->Inv k x->beats m x=true->nxt k x b=some y-> ∃z,nxt k m b=some z/\beats z y=true)
  (he: ∀m x,Inv n m->Inv n x->beats m x=true->fin m<=fin x): ∀(j k:Nat) (m x:L),k+j=n->Inv k m->Inv k x->beats m x=true-> ∀y∈VV nxt choices j k x,∃z∈VV nxt choices j k m,fin z<=fin y
 | 0,k,m,x,hk,h1,h2,hb,y,hy=>by
  grind [RI]
 | j+1,k,m,x,hk,h1,h2,hb,y,hy=>by
  rw [GM] at hy ⊢;obtain ⟨q,hq,hy⟩:=XS.1 hy;obtain ⟨b,hbm,hn⟩:=K4.1 hq;obtain ⟨z,hz,hzb⟩:=hd k m x b q h1 h2 hb hn;obtain ⟨u,hu,hle⟩:=IF hI hd he j (k+1) z q Za (hI k m b z h1 hz) (hI k x b q h2 hn) hzb y hy
  grind
theorem S1 {n:Nat} {Inv:Nat->L->Prop} (hI: ∀k x b y,Inv k x->nxt k x b=some y->Inv (k+1) y) (hd: ∀k m x b y,Inv k m->Inv k x->beats m x=true->nxt k x b=some y-> ∃z,nxt k m b=some z/\beats z y=true)
  (he: ∀m x,Inv n m->Inv n x->beats m x=true->fin m<=fin x): ∀(j k:Nat) (l:List L),k+j=n->(∀x∈l,Inv k x)->Vb fin none (KA beats nxt choices j k l)=Vb fin none (l.flatMap (VV nxt choices j k))
 | 0,k,l,hk,hl=>by
  have:l.flatMap (VV nxt choices 0 k)=l:=by
   have:VV nxt choices 0 k=fun x=> [x]:=by rfl
   rw [this];simp
  rw [this];rfl
 | j+1,k,l,hk,hl=>by
  have hc: ∀x∈Vx nxt choices k l,Inv (k+1) x:=fun x hx=>by
   obtain ⟨q,hq,hx⟩:=XS.1 hx
   grind
  have e:l.flatMap (VV nxt choices (j+1) k)=(Vx nxt choices k l).flatMap (VV nxt choices j (k+1)):=by
   rw [Vx,List.flatMap_assoc]
   congr 1
   grind [GM]
  rw [KA,S1 hI hd he j (k+1) _ Za (fun x hx=>hc x (by simpa using A8 beats _ _ x hx)),DM fin beats _ _ (fun x hx m hm hb y hy=> ?_),e]
  ·simp
  ·exact IF fin beats nxt choices hI hd he j (k+1) m x Za (hc m (by grind)) (hc x (by grind)) hb y hy
def YY : List Bool->List (List Bool)
 | []=> [[]]
 | b::bs=>if b then (YY bs).map (true:: ·) else (YY bs).map (false:: ·)++(YY (List.replicate bs.length false)).map (true:: ·)
termination_by l => l.length
decreasing_by all_goals simp
def YC : List Bool->Option (List Bool)
 | []=>none
 | b::bs=>match YC bs with
  | some l=>some (b::l)
  | none=>if b then none else some (true::List.replicate bs.length false)
theorem fromB_next : ∀l:List Bool,YY l=l::(match YC l with | some r=>YY r | none=> [])
 | []=>by simp [YY,YC]
 | b::bs=>by
  have ih:=fromB_next bs
  have e0: ∀l:List Bool,YY (true::l)=(YY l).map (true:: ·):=fun l=>by rw [YY];simp
  have e1: ∀l:List Bool,YY (false::l)=(YY l).map (false:: ·)++(YY (List.replicate l.length false)).map (true:: ·):=fun l=>by rw [YY];simp
  cases b with
  | true =>
   rw [e0,ih,YC]
   cases h:YC bs with
   | none=>simp
   | some r=>simp [e0]
  | false =>
   rw [e1,ih,YC]
   cases h:YC bs with
   | none=>simp [e0]
   | some r =>
    have hl:r.length=bs.length:=nlen bs r h;simp [e1,hl]
where nlen : ∀(l r:List Bool),YC l=some r->r.length=l.length
 | [],r,h=>by simp [YC] at h
 | b::bs,r,h=>by
  rw [YC] at h
  cases h2:YC bs with
  | none =>
   grind
  | some q =>
   rw [h2] at h;simp at h;subst h;simp [nlen bs q h2]
theorem NB {n:Nat} : ∀(j k:Nat),(∀q,k<=q->choices q= [false,true])->LK choices j k=YY (List.replicate j false)
 | 0,k,_=>by simp [LK,YY]
 | j+1,k,h=>by
  rw [LK,h k (Zw _),NB (n:=n) j (k+1) (fun q hq=>h q Za),K3,YY];simp
end
end Go.Proofs.YtenjikkmmibffaaGreatDoor.K
namespace Go.Proofs.YtenjikkmmibffaaGreatDoor.K
open Go Go.AM Go.Proofs
def Fo (x:Inst) (l:List Vis) (n i:Nat):Bool:=(l.take n).foldl (fun on v=>if v.order=(i:Int) then !v.drp else on) (decide ((nth x.orders i).pick.place<0))
theorem nJ {x:Inst} {l:List Vis} {i:Nat} :Fo x l 0 i=decide ((nth x.orders i).pick.place<0):=by simp [Fo]
theorem GC {x:Inst} {l:List Vis} {n i:Nat} (h:n<l.length):Fo x l (n+1) i=if (nth l n).order=(i:Int) then !(nth l n).drp else Fo x l n i:=by
 grind [Fo,XZ,Zh]
structure SqOk (x:Inst) (l:List Vis):Prop where
 ne:l≠ []
 inr:Inr x l
 nd:l.Nodup
 pair: ∀v∈l,pairB x.orders l v=true
theorem VY {x:Inst} {l:List Vis} (h:Xk x l=0):SqOk x l:=by
 unfold Xk at h
 split at h
 ·simp at h
 ·rename_i h1
  split at h
  ·simp at h
  ·split at h
   ·simp at h
   ·rename_i h3
    split at h
    ·simp at h
    ·rename_i h4;refine ⟨fun e=>h1 (.inl (by simp [e])),fun v hv=> ?_,B8.1 (by grind),fun v hv=> ?_⟩
     ·grind [Va]
     grind
structure OwnV (x:Inst) (l:List Vis) (i:Nat):Prop where
 pick:0<=(nth x.orders i).pick.place->(⟨i,false⟩:Vis)∈l
 drp:0<=(nth x.orders i).drp.place->(⟨i,true⟩:Vis)∈l
 both:0<=(nth x.orders i).pick.place->0<=(nth x.orders i).drp.place->vIx l ⟨i,false⟩<vIx l ⟨i,true⟩
 isP:(⟨i,false⟩:Vis)∈l->0<=(nth x.orders i).pick.place
 isD:(⟨i,true⟩:Vis)∈l->0<=(nth x.orders i).drp.place
theorem SqOk.own {x:Inst} {l:List Vis} (h:SqOk x l) {i:Nat} (hi: ∃v∈l,v.order=(i:Int)):OwnV x l i:=by
 obtain ⟨v0,hv0,ho⟩:=hi
 have key: ∀v∈l,v.order=(i:Int)->v∈ZW x.orders i/\Jd l (-1) (ZW x.orders i)=true:=fun v hv hvo=>by
  have:=h.pair v hv;simp only [pairB,hvo,XY,ZE,Zs] at this;exact ⟨WG.1 this.1,this.2⟩
 obtain ⟨_,hasc⟩:=key v0 hv0 ho;have mem: ∀b:Bool,(⟨i,b⟩:Vis)∈l->(⟨i,b⟩:Vis)∈ZW x.orders i:=fun b hb=>(key _ hb rfl).1
 have hp:(⟨i,false⟩:Vis)∈ZW x.orders i->0<=(nth x.orders i).pick.place:=fun hm=>by
  unfold ZW at hm
  grind
 have hd:(⟨i,true⟩:Vis)∈ZW x.orders i->0<=(nth x.orders i).drp.place:=fun hm=>by
  unfold ZW at hm
  grind
 have m1: ∀v,-1<vIx l v->v∈l:=fun v hv=>WG.1 Za;unfold ZW at hasc
 by_cases c1:0<=(nth x.orders i).pick.place<;>by_cases c2:0<=(nth x.orders i).drp.place
 ·simp only [c1,c2,if_true,ZO,ZD,Jd,QY,ZE,Zs] at hasc;exact ⟨fun _=>m1 _ hasc.1,fun _=>m1 _ Za,fun _ _=>hasc.2,fun _=>c1,fun _=>c2⟩
 ·simp only [c1,c2,if_true,YH,Wy,Jd,QY,Zs] at hasc;exact ⟨fun _=>m1 _ hasc,fun h=>absurd h c2,fun _ h=>absurd h c2,fun _=>c1,fun hm=>hd (mem _ hm)⟩
 ·simp only [c1,c2,if_true,YH,ZD,Jd,QY,Zs] at hasc;exact ⟨fun h=>absurd h c1,fun _=>m1 _ hasc,fun h=>absurd h c1,fun hm=>hp (mem _ hm),fun _=>c2⟩
 ·exact ⟨fun h=>absurd h c1,fun h=>absurd h c2,fun h=>absurd h c1,fun hm=>hp (mem _ hm),fun hm=>hd (mem _ hm)⟩
theorem JS {l:List Vis} (hn:l.Nodup) {v:Vis} {n:Nat} :v∈l.take n↔0<=vIx l v/\vIx l v<(n:Int):=by
 constructor
 ·intro h;obtain ⟨j,h1,h2,rfl⟩:=QG h
  grind [Jt]
 ·intro ⟨h1,h2⟩;obtain ⟨h3,h4⟩:=FA h1
  grind [K6]
theorem nH {x:Inst} {l:List Vis} (h:SqOk x l) (i:Nat): ∀n,n<=l.length->Fo x l n i=if (⟨i,true⟩:Vis)∈l.take n then false else if (⟨i,false⟩:Vis)∈l.take n then true else decide ((nth x.orders i).pick.place<0)
 | 0,_=>by simp [Fo]
 | n+1,hn=>by
  have hk:n<l.length:=Za
  have hat:=Jt h.nd hk;rw [GC hk,nH h i n Za]
  by_cases c:(nth l n).order=(i:Int)
  ·rw [if_pos c];have ho:=h.own (i:=i) ⟨nth l n,Zt hk,c⟩
   cases hd:(nth l n).drp with
   | true =>
    have hv:nth l n=⟨i,true⟩:=by rw [<- c,<- hd]
    rw [hv] at hat;have:(⟨i,true⟩:Vis)∈l.take (n+1):=(JS h.nd).2 Za;rw [if_pos this];rfl
   | false =>
    have hv:nth l n=⟨i,false⟩:=by rw [<- c,<- hd]
    rw [hv] at hat;have h1:(⟨i,false⟩:Vis)∈l.take (n+1):=(JS h.nd).2 Za
    have h2: ¬(⟨i,true⟩:Vis)∈l.take (n+1):=fun hm=>by
     have h3:=Kn hm;have h4:=(JS h.nd).1 hm;have h5:=ho.both (ho.isP (Kn h1)) (ho.isD h3);omega
    rw [if_neg h2,if_pos h1];rfl
  ·rw [if_neg c]
   have e: ∀b:Bool,((⟨i,b⟩:Vis)∈l.take (n+1))=((⟨i,b⟩:Vis)∈l.take n):=fun b=>by
    rw [XZ hk,Xj,<- Zh hk];refine propext ⟨fun hm=>hm.resolve_right fun hm=> ?_,.inl⟩;simp at hm;exact c (by rw [<- hm])
   simp only [e]
theorem Zd3 {x:Inst} {l:List Vis} (h:SqOk x l) {k i:Nat} (hk:k<l.length) (hi:(nth l k).order=(i:Int)):Fo x l k i=(nth l k).drp:=by
 have hat:=Jt h.nd hk;have ho:=h.own (i:=i) ⟨nth l k,Zt hk,hi⟩;have hm:=Zt hk;rw [nH h i k Za]
 cases hd:(nth l k).drp with
 | true =>
  have hv:nth l k=⟨i,true⟩:=by rw [<- hi,<- hd]
  rw [hv] at hat hm
  have h1: ¬(⟨i,true⟩:Vis)∈l.take k:=fun hm=>by have:=(JS h.nd).1 hm;omega
  rw [if_neg h1]
  by_cases c:0<=(nth x.orders i).pick.place
  ·have h2:=ho.both c (ho.isD hm);have h3:(⟨i,false⟩:Vis)∈l.take k:=(JS h.nd).2 ⟨WG.2 (ho.pick c),Za⟩
   grind
  grind
 | false =>
  have hv:nth l k=⟨i,false⟩:=by rw [<- hi,<- hd]
  rw [hv] at hat hm;have hp:=ho.isP hm
  have h1: ¬(⟨i,false⟩:Vis)∈l.take k:=fun hm=>by have:=(JS h.nd).1 hm;omega
  grind
theorem xE {f g:Nat->Int} {i:Nat} (h: ∀q,q≠i->f q=g q): ∀n,i<n->((List.range n).map f).sum=((List.range n).map g).sum+(f i-g i):=by
 have same: ∀n,n<=i->((List.range n).map f).sum=((List.range n).map g).sum:=fun n hn=>by
  grind [Y0]
 intro n
 induction n with
 | zero=>omega
 | succ n ih =>
  intro hi;simp only [X6,XD,Zr,Zn,List.sum_append,Uf,List.sum_nil]
  grind
theorem TM {f:Nat->Int} {b:Int} (hb:0<=b) (h: ∀q,0<=f q/\f q<=b): ∀n:Nat,0<=((List.range n).map f).sum/\((List.range n).map f).sum<=b*n
 | 0=>Zb
 | n+1=>by
  have ih:=TM hb h n
  grind [X6]
theorem Kv {p:Nat->Bool} {f:Nat->Int} : ∀l:List Nat,((l.filter p).map f).sum=(l.map fun i=>if p i=true then f i else 0).sum
 | []=>rfl
 | a::l=>by
  rw [CU,Zr,Uf]
  by_cases h:p a=true
  ·rw [if_pos h,Zr,Uf,Kv l,if_pos h]
  ·rw [if_neg h,Kv l,if_neg h];omega
def Ek (x:Inst) (l:List Vis) (n j:Nat):Int:=((List.range x.orders.length).map fun i=>if (Fo x l n i&&hasO l i)=true then nth (nth x.orders i).load j else 0).sum
theorem IQ {x:Inst} {l:List Vis} (h:SqOk x l) {k j:Nat} (hk:k<l.length):Ek x l (k+1) j=if (nth l k).drp=true then Ek x l k j-nth (nth x.orders (nth l k).order.toNat).load j else Ek x l k j+nth (nth x.orders (nth l k).order.toNat).load j:=by
 obtain ⟨v1,v2⟩:=h.inr _ (Zt hk);obtain ⟨i,hi⟩: ∃i:Nat,(nth l k).order=(i:Int):=⟨(nth l k).order.toNat,Za⟩;have hh:hasO l (i:Int)=true:=Yd.2 ⟨_,Zt hk,hi⟩;have h1:=Zd3 h hk hi
 have h2:Fo x l (k+1) i= !(nth l k).drp:=by simp_all [GC]
 unfold Ek
 rw [xE (f:=fun i=>if (Fo x l (k+1) i&&hasO l i)=true then nth (nth x.orders i).load j else 0) (g:=fun i=>if (Fo x l k i&&hasO l i)=true then nth (nth x.orders i).load j else 0) (i:=i) (fun q hq=>by
  have:Fo x l (k+1) q=Fo x l k q:=by rw [GC hk,if_neg Za]
  grind) x.orders.length Za]
 grind
def Wm (x:Inst) (l:List Vis) (n:Nat):List Int:=(List.range (dimsOf x.types).toNat).map fun j=>Ek x l n j
def FG (a b:List Int):List Int:=(List.range a.length).map fun j=>nth a j+nth b j
def xB (a b:List Int):List Int:=(List.range a.length).map fun j=>nth a j-nth b j
theorem FH {x:Inst} {l:List Vis} {n:Nat} :(Wm x l n).length=(dimsOf x.types).toNat:=by simp [Wm]
theorem Aa {f:Nat->Int} {n j:Nat} (h:j<n):nth ((List.range n).map f) j=f j:=by
 grind [Zh]
theorem T4 {x:Inst} {l:List Vis} (h:SqOk x l) {k:Nat} (hk:k<l.length):Wm x l (k+1)=if (nth l k).drp=true then xB (Wm x l k) (nth x.orders (nth l k).order.toNat).load else FG (Wm x l k) (nth x.orders (nth l k).order.toNat).load:=by
 have key: ∀g:Nat->Int,(∀j,j<(dimsOf x.types).toNat->Ek x l (k+1) j=g j)->Wm x l (k+1)=(List.range (dimsOf x.types).toNat).map g:=fun g hg =>
  Y0 fun j hj=>hg j (Zz.1 hj)
 split
 ·simp_all [xB,IQ,Wm,Aa]
 simp_all [FG,IQ,Wm,Aa]
set_option maxRecDepth 8000
section
variable {σ : Type}
def Bs (nx:List Vis->List Vis):Nat->List Vis->List (List Vis)
 | 0,l=> [l]
 | f+1,l=>if nx l= [] then [l] else (nx l).flatMap fun v=>Bs nx f (l++ [v])
def lvW (nx:List Vis->List Vis) (go:σ->Vis->σ) (emp:σ->Bool):Nat->List Vis->σ->List (List Vis)
 | 0,l,_=> [l]
 | f+1,l,s=>(nx l).flatMap fun v=>if emp (go s v)=true then [] else lvW nx go emp f (l++ [v]) (go s v)
theorem S9 {nx:List Vis->List Vis} : ∀(f:Nat) (l m:List Vis),m∈Bs nx f l-> ∃r,m=l++r
 | 0,l,m,h=>by simp_all [Bs]
 | f+1,l,m,h=>by
  rw [Bs] at h
  split at h
  ·simp_all
  ·obtain ⟨v,_,h⟩:=XS.1 h;obtain ⟨r,rfl⟩:=S9 f _ m h;simp
theorem UI {α β:Type} {p:β->Bool} {g:α->List β} : ∀l:List α,(l.flatMap g).filter p=l.flatMap fun a=>(g a).filter p
 | []=>rfl
 | a::l=>by rw [Qq,Qq,List.filter_append,UI l]
theorem Cy {α β:Type} {g h:α->List β} : ∀ {l:List α},(∀a∈l,g a=h a)->l.flatMap g=l.flatMap h
 | [],_=>rfl
 | a::l,e=>by rw [Qq,Qq,e a Zb,Cy fun b hb=>e b (XL _ hb)]
theorem zJ {nx:List Vis->List Vis} {go:σ->Vis->σ} {emp:σ->Bool} {ok:List Vis->Bool} {G:List Vis->Prop} {R:List Vis->σ->Prop} {tot:Nat}
  (hG: ∀l v,G l->v∈nx l->G (l++ [v])) (hR: ∀l s v,G l->R l s->v∈nx l->R (l++ [v]) (go s v)) (hE: ∀l s,G l->R l s->emp s=true-> ∀r,ok (l++r)=false)
  (hN: ∀l,G l->l.length<tot->nx l≠ []): ∀(f:Nat) (l:List Vis) (s:σ),G l->R l s->l.length+f=tot->(Bs nx f l).filter ok=(lvW nx go emp f l s).filter ok
 | 0,l,s,_,_,_=>rfl
 | f+1,l,s,hl,hs,ht=>by
  rw [Bs,lvW,if_neg (hN l hl Za),UI,UI];refine Cy fun v hv=> ?_;have h1:=hG l v hl hv;have h2:=hR l s v hl hs hv
  split
  ·rename_i he;rw [List.filter_nil,List.filter_eq_nil_iff];intro m hm;obtain ⟨r,rfl⟩:=S9 f _ m hm
   grind
  ·exact zJ hG hR hE hN f _ _ h1 h2 (by simp;omega)
def XI (ok:List Vis->Bool) (col:List Vis->Col) (better:Col->Col->Bool) (b:Col×Bool) (l:List Vis):Col×Bool:=if ok l=true/\(b.2=false\/better (col l) b.1=true) then (col l,true) else b
theorem Q6 {ok:List Vis->Bool} {col:List Vis->Col} {better:Col->Col->Bool} : ∀(L:List (List Vis)) (b:Col×Bool),L.foldl (XI ok col better) b=(L.filter ok).foldl (XI ok col better) b
 | [],b=>rfl
 | l::L,b=>by
  rw [XO,CU]
  split
  ·rw [XO];exact Q6 L _
  ·rename_i h;rw [XI,if_neg (fun g=>h g.1)];exact Q6 L b
theorem Hc {ok:List Vis->Bool} {col:List Vis->Col} {better:Col->Col->Bool} : ∀(L:List (List Vis)) (c c':Col),(L.foldl (XI ok col better) (c,false)).2=(L.foldl (XI ok col better) (c',false)).2/\((L.foldl (XI ok col better) (c,false)).2=true->(L.foldl (XI ok col better) (c,false)).1=(L.foldl (XI ok col better) (c',false)).1)
 | [],c,c'=>⟨rfl,fun h=>by cases h⟩
 | l::L,c,c'=>by
  rw [XO,XO]
  by_cases h:ok l=true
  ·rw [XI,if_pos ⟨h,.inl rfl⟩,XI,if_pos ⟨h,.inl rfl⟩];simp
  ·rw [XI,if_neg (fun g=>h g.1),XI,if_neg (fun g=>h g.1)];exact Hc L c c'
end
set_option maxHeartbeats 8000000
def Js (l:List Pt) (t:Int) (i:Nat):Bool:=decide ((nth l i).t<=t)&&decide (t<(nth l (i+1)).t)
def HJ (p q:Pt) (t:Int):Int:=p.a+((t-p.t)*(q.a-p.a)+q.t-p.t-1) / (q.t-p.t)
def JY (l:List Pt) (t:Int):Int:=match (List.range (l.length-1)).find? (Js l t) with
 | some i=>HJ (nth l i) (nth l (i+1)) t
 | none=>if (nth l 0).t<t then t+(nth l (l.length-1)).a-(nth l (l.length-1)).t else t+(nth l 0).a-(nth l 0).t
theorem Lm {l:List Pt} {t:Int} {i:Nat} (hi:i+1<l.length) (hno: ∀j,j<i->Js l t j=false) (h:Js l t i=true):JY l t=HJ (nth l i) (nth l (i+1)) t:=by
 have:(List.range (l.length-1)).find? (Js l t)=some i:=by
  grind [E9]
 rw [JY,this]
theorem E4 {l:List Pt} {t:Int} (hno: ∀j,j+1<l.length->Js l t j=false):JY l t=if (nth l 0).t<t then t+(nth l (l.length-1)).a-(nth l (l.length-1)).t else t+(nth l 0).a-(nth l 0).t:=by
 grind [JY]
theorem GY {p q:Pt} {t:Int} (h1:p.t<=t) (h2:t<q.t) (hp:0<=p.t) (hq:q.t<=4096) (ha:p.a<=q.a) (hpa:0<=p.a) (hqa:q.a<=8192):0<=(t-p.t)*(q.a-p.a)/\(t-p.t)*(q.a-p.a)<=33554432:=by
 refine ⟨UO Za Za,?_⟩;have:(t-p.t)*(q.a-p.a)<=4096*8192:=VQ Za Za Za Za;omega
theorem Pv (l:List Pt) (c:Bool) (t:Int) (hl:Vg l) (ht:0<=t/\t<=1073741824):PC 285 [.p (.list c (l.map H4)),.p (.int .i64 t)] (.int .i64 (JY l t)):=by
 obtain ⟨⟨hl1,hl2⟩,hpt⟩:=hl;refine Ze Tryz.func285 rfl ZdD ?_;simp (disch:=omega) only [Tryz.f285,go_sem,seval];refine ((jE l c Za).frozenE).useV fun m hm=>Zc ?_
 have hm0:m.length=0:=by rw [hm.emp.2 ⟨⟨hl1,hl2⟩,hpt⟩];rfl
 have e1: ¬t<0:=Za
 have e2: ¬ 1073741824<t:=Za
 simp (disch:=omega) only [hm0,e1,e2,go_sem,seval];refine Zk [0,1] (fun k:Nat=> [(5,.p (.int .i64 k))]) (fun _=> []) (fun k=>k<l.length/\ ∀j,j<k->Js l t j=false) (fun k=>l.length-k) 0 (by simp;omega) (Weak.mk ?_) ?_
 ·simp (disch:=omega) only [go_sem,seval,↓reduceIte]
 ·rintro k ⟨hk,hno⟩;refine Zc ?_;refine cD ?_ ?_<;>intro h<;>simp (disch:=omega) only [Sh.out h,go_sem,seval,↓reduceIte]
  ·have hk2:k+1<l.length:=Za
   obtain ⟨⟨p1,p2,p3,p4⟩,_⟩:=hpt k hk;obtain ⟨⟨q1,q2,q3,q4⟩,q5⟩:=hpt (k+1) hk2;obtain ⟨r1,r2⟩:=q5 Za;rw [Nat.add_sub_cancel] at r1 r2;refine gT ?_ ?_<;>intro h2<;>simp (disch:=omega) only [Sh.out h2,go_sem,seval,↓reduceIte]
   ·refine cD ?_ ?_<;>intro h3<;>simp (disch:=omega) only [Sh.out h3,go_sem,seval,↓reduceIte]
    ·have hsg:Js l t k=true:=by simp [Js,h2,h3]
     rw [Lm hk2 hno hsg];obtain ⟨s1,s2⟩:=GY h2 h3 p1 q2 r2 Za Za;have d1:0<=((t-(nth l k).t)*((nth l (k+1)).a-(nth l k).a)+(nth l (k+1)).t-(nth l k).t-1) / ((nth l (k+1)).t-(nth l k).t):=Int.ediv_nonneg Za Za;have d2:((t-(nth l k).t)*((nth l (k+1)).a-(nth l k).a)+(nth l (k+1)).t-(nth l k).t-1) / ((nth l (k+1)).t-(nth l k).t)<=33558528:=AW (Int.ediv_le_self _ Za) Za
     have d3: ¬(nth l (k+1)).t-(nth l k).t=0:=Za
     simp only [HJ];refine Xq ?_;simp (disch:=omega) only [go_sem,seval,↓reduceIte]
    ·have hsg:Js l t k=false:=by simp [Js,h3]
     exact ⟨k+1,⟨Za,Zp.2 ⟨hno,hsg⟩⟩,Za,wk⟩
   ·have hsg:Js l t k=false:=by simp [Js,h2]
    exact ⟨k+1,⟨Za,Zp.2 ⟨hno,hsg⟩⟩,Za,wk⟩
  ·have hkl:k+1=l.length:=Za
   rw [E4 (fun j hj=>hno j Za)];obtain ⟨⟨p1,p2,p3,p4⟩,_⟩:=hpt 0 Za;obtain ⟨⟨q1,q2,q3,q4⟩,_⟩:=hpt (l.length-1) Za
   have i1:((l.length:Int)-1).toNat=l.length-1:=Za
   refine cD ?_ ?_<;>intro h2<;>simp (disch:=omega) only [Sh.out h2,go_sem,seval,↓reduceIte]
theorem ZL {α:Type} [Inhabited α] {l:List α} {i:Nat} (h:i<l.length):nth l i∈l:=by grind [Zh]
def rP (a:Arc):Prop:=Vg a.travel/\a.slow.length<=16/\ ∀p∈a.slow,0<=p.t/\p.t<=4096/\0<=p.a/\p.a<=4096
def KF (l:List Pt) (t:Int) (k:Nat):Int:=(l.take k).foldl (fun s p=>if p.t<=t then s+p.a else s) 0
def Ll (a:Arc) (t:Int):Int:=JY a.travel t+KF a.slow t a.slow.length
theorem B1 {l:List Pt} {t:Int} {k:Nat} (h:k<l.length):KF l t (k+1)=if (nth l k).t<=t then KF l t k+(nth l k).a else KF l t k:=by
 grind [KF,XZ,Zh]
theorem JQ {l:List Pt} {t:Int} (hl: ∀p∈l,0<=p.a/\p.a<=4096): ∀k,k<=l.length->0<=KF l t k/\KF l t k<=4096*k
 | 0,_=>by simp [KF]
 | k+1,h=>by
  have ih:=JQ (t:=t) hl k Za
  grind [ZL,B1]
theorem FO {l:List Pt} {t:Int} (hl:Vg l) (ht:0<=t/\t<=1073741824):0<=JY l t/\JY l t<=1107304448:=by
 obtain ⟨⟨hl1,hl2⟩,hpt⟩:=hl;unfold JY
 split
 ·rename_i i hi;have hm:=UL hi;have hs:=QV hi;simp at hm;simp only [Js,ZE,Zs] at hs;obtain ⟨⟨p1,p2,p3,p4⟩,_⟩:=hpt i Za;obtain ⟨⟨q1,q2,q3,q4⟩,q5⟩:=hpt (i+1) Za;obtain ⟨r1,r2⟩:=q5 Za;rw [Nat.add_sub_cancel] at r1 r2;obtain ⟨s1,s2⟩:=GY hs.1 hs.2 p1 q2 r2 Za Za;have d1:0<=((t-(nth l i).t)*((nth l (i+1)).a-(nth l i).a)+(nth l (i+1)).t-(nth l i).t-1) / ((nth l (i+1)).t-(nth l i).t):=Int.ediv_nonneg Za Za;have d2:((t-(nth l i).t)*((nth l (i+1)).a-(nth l i).a)+(nth l (i+1)).t-(nth l i).t-1) / ((nth l (i+1)).t-(nth l i).t)<=33558528:=AW (Int.ediv_le_self _ Za) Za
  unfold HJ;omega
 ·obtain ⟨⟨p1,p2,p3,p4⟩,_⟩:=hpt 0 Za;obtain ⟨⟨q1,q2,q3,q4⟩,_⟩:=hpt (l.length-1) Za;omega
theorem Pw (a:Arc) (t:Int) (ha:rP a) (ht:0<=t/\t<=1073741824):PC 267 [.p (V2 a),.p (.int .i64 t)] (.int .i64 (Ll a t)):=by
 obtain ⟨h1,h2,h3⟩:=ha;have hr:=FO h1 ht;have hs:=JQ (t:=t) (fun p hp=>(h3 p hp).2.2);refine Ze Tryz.func267 rfl Zdl ?_;simp (disch:=omega) only [Tryz.f267,go_sem,seval];refine (Pv a.travel a.travel_c t h1 ht).use (Zc ?_);refine Zk [1,2] (fun k:Nat=> [(5,.p (.int .i64 (JY a.travel t+KF a.slow t k))),(6,.p (.int .i64 k))]) (fun _=> [Vk a]) (fun k=>k<=a.slow.length) (fun k=>a.slow.length-k) 0 Zb (Weak.mk ?_) ?_
 ·simp (disch:=omega) only [Vk,KF,VR,go_sem,seval];simp
 ·intro k hk;have hsk:=hs k hk;simp (disch:=omega) only [Vk,go_sem,seval];refine cD ?_ ?_<;>intro h<;>simp (disch:=omega) only [Sh.out h,go_sem,seval,↓reduceIte]
  ·have hk2:k<a.slow.length:=Za
   have hp:=h3 _ (ZL hk2);have hsn:=B1 (t:=t) hk2;refine ZK ?_ ?_<;>intro h4
   ·rw [if_pos h4] at hsn;exact ⟨k+1,Za,Za,Weak.mk (by simp (disch:=omega) only [hsn,Int.add_assoc,go_sem,seval])⟩
   ·rw [if_neg h4] at hsn;exact ⟨k+1,Za,Za,Weak.mk (by simp (disch:=omega) only [hsn,go_sem,seval])⟩
  grind [Ll]
theorem O7 {g:FuncId} {args:List V} {a b c:PV} {H:List AM.Obj} {K:V->List AM.Obj->Prop} (h:ACalls Tryz.prog g args [] fun x H'=>x= .tup [.p a,.p b,.p c]/\H'= []) (k:K (.tup [.p a,.p b,.p c]) H) (ha:Xv 0 args=true:=by rfl):ACalls Tryz.prog g args H K :=
 (h.behind ha H).mono fun x H' hq=>by
  obtain ⟨y,H1,⟨rfl,rfl⟩,rfl,rfl⟩:=hq
  grind [shV,shVs]
theorem Yn {g:FuncId} {args:List V} {a b:PV} {H:List AM.Obj} {K:V->List AM.Obj->Prop} (h:ACalls Tryz.prog g args [] fun x H'=>x= .tup [.p a,.p b]/\H'= []) (k:K (.tup [.p a,.p b]) H) (ha:Xv 0 args=true:=by rfl):ACalls Tryz.prog g args H K :=
 (h.behind ha H).mono fun x H' hq=>by
  obtain ⟨y,H1,⟨rfl,rfl⟩,rfl,rfl⟩:=hq
  grind [shV,shVs]
def Ac (n:Net) (p:Int):Bool:=decide (0<=p)&&decide (p<(n.places.length:Int))
theorem IC (n:Net) (p:Int) (hn:n.places.length<=1048576):PC 265 [.p (Cw n),.p (.int .i64 p)] (.bool (Ac n p)):=by
 refine Ze Tryz.func265 rfl Zdj ?_;simp (disch:=omega) only [Tryz.f265,go_sem,seval];refine gT ?_ ?_<;>intro h<;>simp (disch:=omega) only [Sh.out h,go_sem,seval,↓reduceIte]
 ·simp [Ac,h]
 ·simp [Ac,h]
def VG (pr f t:Int) (a:Arc):Bool:=decide (a.src=f)&&decide (a.dst=t)&&decide (a.prof=pr)
def Uo : Arc:=⟨0,0,0,0,true,[],true,[]⟩
def W4 (n:Net) (pr f t:Int):Arc×Bool:=match n.arcs.find? (VG pr f t) with | some a=>(a,true) | none=>(Uo,false)
theorem ND {n:Net} {pr f t:Int} {k:Nat} (hk:k<n.arcs.length) (hno: ∀j,j<k->VG pr f t (nth n.arcs j)=false) (h:VG pr f t (nth n.arcs k)=true):W4 n pr f t=(nth n.arcs k,true):=by
 have:n.arcs.find? (VG pr f t)=some (nth n.arcs k):=by
  grind [E9,Zh]
 rw [W4,this]
theorem NE {n:Net} {pr f t:Int} (hno: ∀j,j<n.arcs.length->VG pr f t (nth n.arcs j)=false):W4 n pr f t=(Uo,false):=by
 have:n.arcs.find? (VG pr f t)=none:=by
  rw [AN];intro a ha;obtain ⟨j,hj,rfl⟩:=ZN.1 ha
  grind [Zh]
 rw [W4,this]
theorem kG (n:Net) (pr f t:Int) (hn:n.arcs.length<=1048576):PT 266 [.p (Cw n),.p (.int .i64 pr),.p (.int .i64 f),.p (.int .i64 t)] [.p (V2 (W4 n pr f t).1),.p (.bool (W4 n pr f t).2)]:=by
 refine Zf [] Tryz.func266 rfl Zdk ?_;simp (disch:=omega) only [Tryz.f266,go_sem,seval];refine Zk [1,2,3,4,8] (fun k:Nat=> [(10,.p (.int .i64 k))]) (fun _=>Z9 n++ [Vk Uo]) (fun k=>k<=n.arcs.length/\ ∀j,j<k->VG pr f t (nth n.arcs j)=false) (fun k=>n.arcs.length-k) 0 Zb (Weak.mk ?_) ?_
 ·simp (disch:=omega) only [Z9,Vk,Uo,Zn,ZO,ZD,go_sem,seval]
 ·rintro k ⟨hk,hno⟩;simp (disch:=omega) only [Z9,Vk,Uo,Zn,ZO,ZD,go_sem,seval];refine cD ?_ ?_<;>intro h<;>simp (disch:=omega) only [Sh.out h,go_sem,seval,↓reduceIte]
  ·have hk2:k<n.arcs.length:=Za
   have nx:VG pr f t (nth n.arcs k)=false-> ∀j,j<k+1->VG pr f t (nth n.arcs j)=false:=fun h=>Zp.2 ⟨hno,h⟩;refine Ql ?_ ?_<;>intro h1
   ·refine Ql ?_ ?_<;>intro h2
    ·refine ZK ?_ ?_<;>intro h3
     ·have e:=ND hk2 hno (by grind [VG]);rw [e];exact we
     ·exact ⟨k+1,⟨Za,nx (by simp [VG,h3])⟩,Za,wk⟩
    ·exact ⟨k+1,⟨Za,nx (by simp [VG,h2])⟩,Za,wk⟩
   ·exact ⟨k+1,⟨Za,nx (by simp [VG,h1])⟩,Za,wk⟩
  ·have hkn:k=n.arcs.length:=Za
   subst hkn;rw [NE hno];exact we (by simp (disch:=omega) only [Uo,Zn,go_sem,seval])
def W5 (n:Net) (pr f t τ:Int):Int×Int×Int :=
 if (Ac n f&&Ac n t)=false then (0,0,11) else if f=t then (τ,0,0) else if (W4 n pr f t).2=true then (Ll (W4 n pr f t).1 τ,(W4 n pr f t).1.miles,0) else (0,0,12)
def netR (n:Net):Prop:=n.places.length<=1048576/\n.arcs.length<=1048576/\ ∀a∈n.arcs,rP a
theorem AD {n:Net} {pr f t:Int} (h:(W4 n pr f t).2=true):(W4 n pr f t).1∈n.arcs:=by
 grind [W4]
theorem Zbj (n:Net) (pr f t τ:Int) (hn:netR n) (hτ:0<=τ/\τ<=1073741824):PT 243 [.p (Cw n),.p (.int .i64 pr),.p (.int .i64 f),.p (.int .i64 t),.p (.int .i64 τ)] [.p (.int .i64 (W5 n pr f t τ).1),.p (.int .i64 (W5 n pr f t τ).2.1),.p (.int .i64 (W5 n pr f t τ).2.2)]:=by
 refine Zf [] Tryz.func243 rfl ZcY ?_;simp (disch:=omega) only [Tryz.f243,go_sem,seval];refine (IC n f hn.1).use (Zc ?_);refine gF ?_ ?_<;>intro h1<;>simp (disch:=omega) only [Sh.out h1,go_sem,seval,↓reduceIte]
 ·have e:W5 n pr f t τ=(0,0,11):=by grind [W5]
  rw [e];exact we
 ·simp only [XR] at h1;refine (IC n t hn.1).use (Zc ?_);refine cD ?_ ?_<;>intro h2<;>simp (disch:=omega) only [Sh.out h2,go_sem,seval]
  ·have e:W5 n pr f t τ=(0,0,11):=by grind [W5]
   rw [e];exact we
  ·simp only [XR] at h2;refine cD ?_ ?_<;>intro h3<;>simp (disch:=omega) only [Sh.out h3,go_sem,seval,↓reduceIte]
   ·have e:W5 n pr f t τ=(τ,0,0):=by grind [W5]
    rw [e];exact we
   ·have cf:=kG n pr f t hn.2.1;have hm:= @AD n pr f t
    have e0:W5 n pr f t τ=if (W4 n pr f t).2=true then (Ll (W4 n pr f t).1 τ,(W4 n pr f t).1.miles,0) else (0,0,12):=by grind [W5]
    rw [e0];generalize W4 n pr f t=A at cf hm ⊢;obtain ⟨a,b⟩:=A;simp only at cf hm ⊢;refine Yn cf (Zc ?_);refine cD ?_ ?_<;>intro h4<;>simp (disch:=omega) only [Sh.out h4,go_sem,seval]
    ·have hb:b=false:=by grind
     subst hb;exact we (by simp (disch:=omega) only [go_sem,seval,↓reduceIte])
    ·have hb:b=true:=by grind
     subst hb;refine Xq (Zc ?_);refine Zo (Pw a τ (hn.2.2 a (hm rfl)) hτ) (Zc ?_);exact we
theorem xP (x:Inst) (pr f t τ:Int) (hn:netR x.net) (hτ:0<=τ/\τ<=1073741824):PT 228 [.p (Zv x),.p (.int .i64 pr),.p (.int .i64 f),.p (.int .i64 t),.p (.int .i64 τ)] [.p (.int .i64 (W5 x.net pr f t τ).1),.p (.int .i64 (W5 x.net pr f t τ).2.1),.p (.bool (decide ((W5 x.net pr f t τ).2.2=0)))]:=by
 refine Zf [] Tryz.func228 rfl ZcK ?_;simp (disch:=omega) only [Tryz.f228,go_sem,seval];refine O7 (Zbj x.net pr f t τ hn hτ) (Zc ?_);exact we
structure StD where
 place:Int
 time:Int
 driven:Int
 miles:Int
def jX (s:StD):PV:= .agg [.int .i64 s.place,.int .i64 s.time,.int .i64 s.driven,.int .i64 s.miles]
@[go_sem] theorem ZmI (s:StD):jX s= .agg [.int .i64 s.place,.int .i64 s.time,.int .i64 s.driven,.int .i64 s.miles]:=Zl rfl rfl
def GP (t:Typ) (s:StD) (b:Bool):StD:=if b=true then { s with time:=s.time+t.rest,driven:=0 } else s
theorem Ox (t:Typ) (s:StD) (b:Bool) (hb: -1099511627776<=s.time/\s.time<=1099511627776/\ -1099511627776<=t.rest/\t.rest<=1099511627776):PC 215 [.p (X8 t),.p (jX s),.p (.bool b)] (jX (GP t s b)):=by
 refine Ze Tryz.func215 rfl ZcB ?_
 cases b with
 | true=>simp (disch:=omega) only [Tryz.f215,GP,go_sem,seval,↓reduceIte]
 | false=>simp (disch:=omega) only [Tryz.f215,GP,Y1,go_sem,seval,↓reduceIte]
def JR (x:Inst) (t:Typ) (s:StD) (to cl late:Int):StD×Int :=
 if ¬(W5 x.net t.prof s.place to s.time).2.2=0 then (s,12)
 else if cl<(W5 x.net t.prof s.place to s.time).1 then (s,late)
 else if t.drive<s.driven+(W5 x.net t.prof s.place to s.time).1-s.time then (s,16)
 else (⟨to,(W5 x.net t.prof s.place to s.time).1,s.driven+(W5 x.net t.prof s.place to s.time).1-s.time,s.miles+(W5 x.net t.prof s.place to s.time).2.1⟩,0)
def fY (n:Int):Prop:= -1099511627776<=n/\n<=1099511627776
theorem OX (x:Inst) (t:Typ) (s:StD) (to cl late:Int) (hn:netR x.net) (hs:0<=s.time/\s.time<=1073741824) (hd:fY s.driven) (hm:fY s.miles) (hg:fY (W5 x.net t.prof s.place to s.time).1/\fY (W5 x.net t.prof s.place to s.time).2.1) :
  PT 216 [.p (Zv x),.p (X8 t),.p (jX s),.p (.int .i64 to),.p (.int .i64 cl),.p (.int .i64 late)] [.p (jX (JR x t s to cl late).1),.p (.int .i64 (JR x t s to cl late).2)]:=by
 have cw:=xP x t.prof s.place to s.time hn hs;unfold JR;generalize W5 x.net t.prof s.place to s.time=g at cw hg ⊢;obtain ⟨a,m,e⟩:=g;unfold fY at hd hm hg;simp only at cw hg ⊢;refine Zf [] Tryz.func216 rfl ZcC ?_;simp (disch:=omega) only [Tryz.f216,go_sem,seval];refine O7 cw (Zc ?_);refine cD ?_ ?_<;>intro h1<;>simp (disch:=omega) only [Sh.out h1,go_sem,seval,↓reduceIte]
 ·exact we
 ·rw [if_neg h1];refine cD ?_ ?_<;>intro h2<;>simp (disch:=omega) only [Sh.out h2,go_sem,seval,↓reduceIte]
  ·exact we
  ·rw [if_neg h2];refine cD ?_ ?_<;>intro h3<;>simp (disch:=omega) only [Sh.out h3,go_sem,seval,↓reduceIte]
   ·exact we
   ·exact we
structure Lab where
 ready:Int
 since:Int
 she:She
 deriving Inhabited
def zShe : She:=⟨false,0,true,[],0,0⟩
def W3 : Lab:=⟨0,0,zShe⟩
def ZM (t:Typ) (L:Lab) (b:Bool):Int:=if b=true then L.ready+t.rest else L.ready
def W1 (L:Lab) (b:Bool):Int:=if b=true then 0 else L.since
def Tb (l:List Tim) (k:Nat) (d:Int) (b:Bool):List Tim:=l.set k { nth l k with dep:=d,rest:=b }
def X4 (k:Nat) (d:Int) (b:Bool) (s:She):She:=if k=0 then { s with rest:=b,dep:=d } else { s with times:=Tb s.times (k-1) d b }
def Ui (t:Typ) (sp:List Stp) (k:Nat):Int:=if k=0 then t.src else (nth sp (k-1)).place
def Pi (t:Typ) (sp:List Stp) (k:Nat):Int:=if k=sp.length then t.dst else (nth sp k).place
def Y7 (x:Inst) (t:Typ) (sp:List Stp) (k:Nat) (d:Int):Int×Int×Int:=W5 x.net t.prof (Ui t sp k) (Pi t sp k) d
def WI (t:Typ) (sp:List Stp) (k:Nat) (g:Int×Int×Int) (d s:Int) (h:She):Lab×Int :=
 if ¬g.2.2=0 then (W3,12)
 else if k=sp.length then
  if t.cls<g.1 then (W3,15) else if t.drive<s+g.1-d then (W3,16)
  else (⟨g.1,s+g.1-d,{ h with fin:=g.1,miles:=h.miles+g.2.1 }⟩,0)
 else if (nth sp k).cls<max g.1 (nth sp k).opn then (W3,14)
 else if t.drive<s+g.1-d then (W3,16)
 else (⟨max g.1 (nth sp k).opn+(nth sp k).serv,s+g.1-d,{ h with times_c:=false,times:=h.times++ [⟨g.1,max g.1 (nth sp k).opn,0,false⟩],miles:=h.miles+g.2.1 }⟩,0)
def nxtF (x:Inst) (t:Typ) (sp:List Stp) (k:Nat) (L:Lab) (b:Bool):Lab×Int :=
 WI t sp k (Y7 x t sp k (ZM t L b)) (ZM t L b) (W1 L b) (X4 k (ZM t L b) b L.she)
def XE (x:Inst) (t:Typ) (sp:List Stp) (k:Nat) (L:Lab) (b:Bool):Option Lab:=if (nxtF x t sp k L b).2=0 then some (nxtF x t sp k L b).1 else none
def Xd (x:Inst) (t:Typ) (sp:List Stp):Nat->Lab->List Bool->Lab×Int
 | _,L,[]=>(L,0)
 | k,L,b::bs=>if (nxtF x t sp k L b).2=0 then Xd x t sp (k+1) (nxtF x t sp k L b).1 bs else (W3,(nxtF x t sp k L b).2)
def labF (t:Typ) (st:Int):Lab:=⟨max t.opn st,0,zShe⟩
theorem YD {x:Inst} {t:Typ} {sp:List Stp} : ∀(bs:List Bool) (k:Nat) (L:Lab),Wi (XE x t sp) k L bs=if (Xd x t sp k L bs).2=0 then some (Xd x t sp k L bs).1 else none
 | [],k,L=>by rfl
 | b::bs,k,L=>by
  rw [Wi,Xd,XE]
  by_cases h:(nxtF x t sp k L b).2=0
  ·simp only [h,if_true];exact YD bs (k+1) _
  ·simp [h]
structure TrpOk (x:Inst) (t:Typ) (sp:List Stp):Prop where
 net:netR x.net
 mil: ∀a∈x.net.arcs,0<=a.miles/\a.miles<=10000
 opn:0<=t.opn/\t.opn<=t.cls/\t.cls<=4096
 drv:1<=t.drive/\t.drive<=4096
 rst:0<=t.rest/\t.rest<=4096
 stp: ∀s∈sp,0<=s.opn/\s.opn<=s.cls/\s.cls<=4096/\0<=s.serv/\s.serv<=4096
 len:sp.length<=20
structure LabR (k:Nat) (L:Lab):Prop where
 rdy:0<=L.ready/\L.ready<=8192
 snc: -(12288*(k:Int))<=L.since/\L.since<=4096
 mil:0<=L.she.miles/\L.she.miles<=10000*(k:Int)
theorem LQ {n:Net} {pr f t τ:Int} (hn:netR n) (hm: ∀a∈n.arcs,0<=a.miles/\a.miles<=10000) (hτ:0<=τ/\τ<=1073741824):(0<=(W5 n pr f t τ).1/\(W5 n pr f t τ).1<=1107369984)/\(0<=(W5 n pr f t τ).2.1/\(W5 n pr f t τ).2.1<=10000):=by
 unfold W5
 split
 ·simp
 ·split
  ·grind
  ·split
   ·rename_i h;have hA:=AD h;have h1:=FO (hn.2.2 _ hA).1 hτ;have h2:=JQ (t:=τ) (fun p hp=>((hn.2.2 _ hA).2.2 p hp).2.2) _ (Zw _);have h3:=(hn.2.2 _ hA).2.1
    grind [Ll]
   ·simp
theorem KU {x t sp k L} (h:TrpOk x t sp) (hl:LabR k L) (b:Bool):0<=ZM t L b/\ZM t L b<=12288:=by
 have:=h.rst;have:=hl.rdy
 grind [ZM]
theorem G3 {k L} (hl:LabR k L) (b:Bool): -(12288*(k:Int))<=W1 L b/\W1 L b<=4096:=by
 have:=hl.snc
 grind [W1]
theorem LP {x t sp k L} (h:TrpOk x t sp) (hl:LabR k L) (b:Bool):(0<=(Y7 x t sp k (ZM t L b)).1/\(Y7 x t sp k (ZM t L b)).1<=1107369984)/\(0<=(Y7 x t sp k (ZM t L b)).2.1/\(Y7 x t sp k (ZM t L b)).2.1<=10000):=by
 have:=KU h hl b;exact LQ h.net h.mil Za
theorem K5 {k d b s} :(X4 k d b s).miles=s.miles:=by grind [X4]
theorem It {k d b s} :(X4 k d b s).fin=s.fin:=by grind [X4]
theorem A0 {k d b s} :(X4 k d b s).times.length=s.times.length:=by grind [X4,Tb]
theorem Me {x t sp k L b} (h:TrpOk x t sp) (hk:k<=sp.length) (hl:LabR k L) (he:(nxtF x t sp k L b).2=0):LabR (k+1) (nxtF x t sp k L b).1:=by
 have h1:=KU h hl b;have h2:=G3 hl b;obtain ⟨h3,h4⟩:=LP h hl b;have h5:=hl.mil;have h6:=h.opn;have h7:=h.drv;have hm:(X4 k (ZM t L b) b L.she).miles=L.she.miles:=K5;unfold nxtF at he ⊢
 generalize Y7 x t sp k (ZM t L b)=g at *
 generalize ZM t L b=d at *
 generalize W1 L b=s at *
 generalize X4 k d b L.she=m at *
 unfold WI at he ⊢
 split at he
 ·simp at he
 ·rename_i c1;rw [if_neg c1]
  split at he
  ·rename_i c2;rw [if_pos c2]
   split at he
   ·simp at he
   ·rename_i c3;rw [if_neg c3]
    split at he
    ·simp at he
    ·rename_i c4;rw [if_neg c4];exact ⟨by grind,by grind,by grind⟩
  ·rename_i c2;rw [if_neg c2];have h8:=h.stp _ (ZL (show k<sp.length by omega))
   split at he
   ·simp at he
   ·rename_i c3;rw [if_neg c3]
    split at he
    ·simp at he
    ·rename_i c4;rw [if_neg c4];exact ⟨by grind,by grind,by grind⟩
theorem Gz {x t sp k L b} (hl:L.she.times.length=k) (he:(nxtF x t sp k L b).2=0) (hk:k<sp.length):(nxtF x t sp k L b).1.she.times.length=k+1:=by
 have hm:(X4 k (ZM t L b) b L.she).times.length=L.she.times.length:=A0;unfold nxtF at he ⊢
 generalize Y7 x t sp k (ZM t L b)=g at *
 generalize ZM t L b=d at *
 generalize W1 L b=s at *
 generalize X4 k d b L.she=m at *
 have hk2: ¬k=sp.length:=Za
 unfold WI at he ⊢
 grind
def Xe (m x:Lab):Bool:=decide (m.ready=x.ready)&&decide (m.since<=x.since)
theorem PA {x t sp k} {m y z:Lab} {b:Bool} (hb:Xe m y=true) (hn:XE x t sp k y b=some z): ∃u,XE x t sp k m b=some u/\Xe u z=true:=by
 simp only [Xe,ZE,Zs] at hb;obtain ⟨hb1,hb2⟩:=hb
 have hd:ZM t m b=ZM t y b:=by simp [ZM,hb1]
 have hs:W1 m b<=W1 y b:=by grind [W1]
 unfold XE at hn ⊢;unfold nxtF at hn ⊢;rw [hd]
 generalize Y7 x t sp k (ZM t y b)=g at *
 generalize ZM t y b=d at *
 generalize W1 y b=s at *
 generalize W1 m b=s2 at *
 generalize X4 k d b y.she=h1 at *
 generalize X4 k d b m.she=h2 at *
 unfold WI at hn ⊢
 by_cases c1:g.2.2=0
 ·by_cases c2:k=sp.length
  ·simp only [c1,c2,not_true,if_true,YH] at hn ⊢
   by_cases c3:t.cls<g.1
   ·grind
   ·by_cases c4:t.drive<s+g.1-d
    ·grind
    ·have c5: ¬t.drive<s2+g.1-d:=Za
     simp only [c3,c4,YH,if_true,Qr] at hn;subst hn;refine ⟨_,by simp only [c3,c5,YH,if_true];rfl,?_⟩;simp [Xe];omega
  ·simp only [c1,c2,not_true,YH] at hn ⊢
   by_cases c3:(nth sp k).cls<max g.1 (nth sp k).opn
   ·grind
   ·by_cases c4:t.drive<s+g.1-d
    ·grind
    ·have c5: ¬t.drive<s2+g.1-d:=Za
     simp only [c3,c4,YH,if_true,Qr] at hn;subst hn;refine ⟨_,by simp only [c3,c5,YH,if_true];rfl,?_⟩;simp [Xe];omega
 grind
def Wn (L:Lab):Int:=L.she.fin
theorem Oe {x t sp} {y z:Lab} {b:Bool} (hn:XE x t sp sp.length y b=some z):z.she.fin=z.ready:=by
 unfold XE nxtF WI at hn
 grind
theorem Il {x t sp} (ch:Nat->List Bool) (L:Lab):Vb Wn none (KA Xe (XE x t sp) ch (sp.length+1) 0 [L])=Vb Wn none (VV (XE x t sp) ch (sp.length+1) 0 L):=by
 have h:=S1 Wn Xe (XE x t sp) ch (n:=sp.length+1) (Inv:=fun k y=>k=sp.length+1->y.she.fin=y.ready)
  (fun k y b z _ hn hk=>by
   grind [Oe]) (fun k m y b z _ _ hb hn=>PA hb hn)
  (fun m y h1 h2 hb=>by
   simp only [Xe,ZE,Zs] at hb
   rw [Wn,Wn,h1 rfl,h2 rfl];omega) (sp.length+1) 0 [L] Za (fun y _ hk=>Za)
 rw [h];simp
def UU (r:List Bool) (k:Nat):List Bool:=match r[k]? with | some b=> [b] | none=> [false,true]
theorem SJ (r:List Bool) (n:Nat) (hn:r.length<=n): ∀(j k:Nat),k+j=r.length->LK (UU r) (n-k) k=(YY (List.replicate (n-r.length) false)).map (r.drop k++ ·)
 | 0,k,h=>by
  have hk:k=r.length:=Za
  subst hk;rw [NB (n:=n) _ _ _ (fun q hq=>by grind [UU])];simp
 | j+1,k,h=>by
  have e:n-k=(n-(k+1))+1:=Za
  have hlt:k<r.length:=Za
  rw [e,LK,SJ r n hn j (k+1) Za]
  have:UU r k= [r[k]]:=by simp [UU,hlt]
  rw [this,Qq,List.flatMap_nil,Wy,List.map_map,Ud hlt]
  rfl
theorem H6 (r:List Bool) (n:Nat) (hn:r.length<=n):LK (UU r) n 0=(YY (List.replicate (n-r.length) false)).map (r++ ·):=by
 have:=SJ r n hn r.length 0 Za
 grind
def XH (r:List Bool) (n:Nat):List (List Bool):=(YY (List.replicate (n-r.length) false)).map (r++ ·)
def YT (r:List Bool) (n:Nat):List Bool:=r++List.replicate (n-r.length) false
def Yw (x:Inst) (t:Typ) (sp:List Stp) (st:Int) (r:List Bool):She×Int :=
 match Vb Wn none ((XH r (sp.length+1)).filterMap (Wi (XE x t sp) 0 (labF t st))) with
 | some L=>(L.she,0)
 | none=>(zShe,(Xd x t sp 0 (labF t st) (YT r (sp.length+1))).2)
theorem Lr {x t sp} {st:Int} {r:List Bool} (hr:r.length<=sp.length+1):Yw x t sp st r=match Vb Wn none (KA Xe (XE x t sp) (UU r) (sp.length+1) 0 [labF t st]) with
 | some L=>(L.she,0)
 | none=>(zShe,(Xd x t sp 0 (labF t st) (YT r (sp.length+1))).2):=by
 rw [Il,VV,H6 r _ hr];rfl
theorem OD {x t sp} : ∀(bs:List Bool) (k:Nat) (L:Lab),L.she.times.length=k->k+bs.length=sp.length+1->0<bs.length->(Xd x t sp k L bs).2=0->(Xd x t sp k L bs).1.she.times.length=sp.length
 | [],k,L,h1,h2,h3,h=>by simp at h3
 | b::bs,k,L,h1,h2,_,h=>by
  rw [Xd] at h ⊢
  by_cases h4:(nxtF x t sp k L b).2=0
  ·simp only [h4,if_true] at h ⊢
   cases bs with
   | nil =>
    simp at h2;subst h2;rw [Xd];unfold nxtF at h4 ⊢;unfold WI at h4 ⊢
    split at h4
    ·simp at h4
    ·rename_i c1;rw [if_neg c1];simp only [if_true] at h4 ⊢
     split at h4
     ·simp at h4
     ·rename_i c2;rw [if_neg c2]
      split at h4
      ·simp at h4
      simp_all [if_neg,A0]
   | cons b2 bs =>
    simp at h2;exact OD (b2::bs) (k+1) _ (Gz h1 h4 Za) (by simp;omega) Zb h
  grind
theorem bestF_len {x t sp} {st:Int} {r:List Bool} (hr:r.length<=sp.length+1) (h:(Yw x t sp st r).2=0):(Yw x t sp st r).1.times.length=sp.length:=by
 unfold Yw at h ⊢
 cases hf:Vb Wn none ((XH r (sp.length+1)).filterMap (Wi (XE x t sp) 0 (labF t st))) with
 | none =>
  rw [hf] at h;simp only at h ⊢;exfalso
  have hm:YT r (sp.length+1)∈XH r (sp.length+1):=by
   grind [XH,YT,fromB_next]
  have h2:Wi (XE x t sp) 0 (labF t st) (YT r (sp.length+1))=some (Xd x t sp 0 (labF t st) (YT r (sp.length+1))).1:=by rw [YD,if_pos h]
  have h3:(Xd x t sp 0 (labF t st) (YT r (sp.length+1))).1∈(XH r (sp.length+1)).filterMap (Wi (XE x t sp) 0 (labF t st)):=K4.2 ⟨_,hm,h2⟩;generalize (XH r (sp.length+1)).filterMap (Wi (XE x t sp) 0 (labF t st))=l at hf h3
  cases l with
  | nil=>simp at h3
  | cons a l =>
   rw [Vb] at hf;obtain ⟨z,e,_⟩:=VJ Wn l a
   grind
 | some L =>
  simp only;have hm:=fmL_mem _ _ hf;obtain ⟨bs,hbs,hrun⟩:=K4.1 hm;rw [YD] at hrun
  split at hrun
  ·rename_i h5;simp at hrun;subst hrun;obtain ⟨q,hq,rfl⟩:=Xn.1 hbs;have hql:=fromB_len _ _ hq;simp at hql;exact OD _ 0 _ rfl (by grind) (by grind) h5
  ·cases hrun
where
 fmL_mem: ∀(l:List Lab) (L:Lab),Vb Wn none l=some L->L∈l
 | [],L,h=>by simp [Vb] at h
 | a::l,L,h=>by
  rw [Vb] at h;exact fmL_mem2 l a L h
 fmL_mem2: ∀(l:List Lab) (a L:Lab),Vb Wn (some a) l=some L->L∈a::l
 | [],a,L,h=>by grind [Vb]
 | y::l,a,L,h=>by
  rw [Vb] at h
  split at h
  ·have:=fmL_mem2 l y L h;grind
  ·have:=fmL_mem2 l a L h;grind
 fromB_len: ∀(l q:List Bool),q∈YY l->q.length=l.length
 | [],q,h=>by grind [YY]
 | b::bs,q,h=>by
  rw [YY] at h
  split at h
  ·obtain ⟨q',hq,rfl⟩:=Xn.1 h;simp [fromB_len bs q' hq]
  ·rcases Xj.1 h with h | h
   ·obtain ⟨q',hq,rfl⟩:=Xn.1 h;simp [fromB_len bs q' hq]
   ·obtain ⟨q',hq,rfl⟩:=Xn.1 h;simp [fromB_len (List.replicate bs.length false) q' hq]
 termination_by l=>l.length
 decreasing_by all_goals simp
def Xp (x:Inst) (v:Vis):Stp:=if v.drp=true then (nth x.orders v.order.toNat).drp else (nth x.orders v.order.toNat).pick
def ZP (x:Inst) (l:List Vis):List Stp:=l.map (Xp x)
def Yq (t:Typ) (s:Int):Bool:=decide (0<=t.skills)&&decide (0<=s)&&(List.range 63).all fun i=> !s.toNat.testBit i||t.skills.toNat.testBit i
def V4 (a c:List Int):Bool:=decide (a.length=c.length)&&(List.range a.length).all fun i=>decide (nth a i<=nth c i)
def Qv (x:Inst) (c:List Int) (l:List Vis):Bool:=(List.range (l.length+1)).all fun n=>V4 (Wm x l n) c
def ZF (x:Inst) (r:Rte):Typ:=nth x.types r.typ.toNat
def UJ (l:List Vis) (i:Nat):Bool:= !((l.take i).any fun v=>decide (v.order=(nth l i).order))
def Xy (k t:Int):Bool:=decide (k≠ -1)&&decide (k≠t)
def chgF (x:Inst) (l:List Vis) (t:Int):Nat->Int×Int
 | 0=>(0,0)
 | n+1=>if UJ l n=true then ((chgF x l t n).1+(if Xy (nth x.orders (nth l n).order.toNat).now t=true then 1 else 0),(chgF x l t n).2+(if Xy (nth x.orders (nth l n).order.toNat).last t=true then 1 else 0)) else chgF x l t n
def Eb (x:Inst) (r:Rte) (s:She):Sco :=
 ⟨(ZF x r).fixed+(ZF x r).perMile*s.miles+(ZF x r).perTick*(s.fin-(ZF x r).opn),(chgF x r.visits r.typ r.visits.length).1,(chgF x r.visits r.typ r.visits.length).2,(s.fin-(ZF x r).opn).tdiv 64*(s.fin-(ZF x r).opn).tdiv 64⟩
def X2 (x:Inst) (r:Rte):Int :=
 if ¬(0<=r.typ/\r.typ<(x.types.length:Int)) then 2
 else if ¬Xk x r.visits=0 then Xk x r.visits
 else if (r.visits.any fun v=> !Yq (ZF x r) (nth x.orders v.order.toNat).skills)=true then 18
 else if Qv x (ZF x r).cap r.visits=false then 17
 else if ¬(0<=r.start/\r.start<=4096/\r.rests.length<=r.visits.length+1) then 2
 else 0
def XB (x:Inst) (r:Rte):She×Int:=Yw x (ZF x r) (ZP x r.visits) r.start r.rests
def Z6 (x:Inst) (r:Rte):Int:=if X2 x r=0 then (XB x r).2 else X2 x r
def Yc (x:Inst) (r:Rte):She:=if Z6 x r=0 then (XB x r).1 else zShe
def XF (x:Inst) (r:Rte):Sco:=if Z6 x r=0 then Eb x r (XB x r).1 else zSco
def ZeL : Stp:=⟨0,0,0,0⟩
def NR (x:Inst) (v:Vis):Bool:=decide (0<=v.order)&&decide (v.order<(x.orders.length:Int))
def As (x:Inst) (v:Vis):Bool:=NR x v&&decide (0<=(Xp x v).place)
def Dr (x:Inst) (v:Vis):Stp:=if NR x v=true then Xp x v else ZeL
theorem OY (x:Inst) (v:Vis) (ho:x.orders.length<=1048576):PT 181 [.p (Zv x),.p (Z7 v)] [.p (F4 (Dr x v)),.p (.bool (As x v))]:=by
 refine Zf [] Tryz.func181 rfl Zcj ?_;simp (disch:=omega) only [Tryz.f181,go_sem,seval];refine gF ?_ ?_<;>intro h1<;>simp (disch:=omega) only [Sh.out h1,go_sem,seval,↓reduceIte]
 ·have e:NR x v=false:=by
   grind [NR]
  simp only [Dr,As,e,QU,Y1,YH,ZeL];exact we
 ·refine cD ?_ ?_<;>intro h2<;>simp (disch:=omega) only [Sh.out h2,go_sem,seval,↓reduceIte]
  ·have e:NR x v=false:=by
    grind [NR]
   simp only [Dr,As,e,QU,Y1,YH,ZeL];exact we
  ·have e:NR x v=true:=by simp [NR];omega
   have hi:v.order.toNat<x.orders.length:=Za
   refine cD ?_ ?_<;>intro hd<;>simp (disch:=omega) only [Sh.out hd,go_sem,seval,↓reduceIte]
   ·have hG:Dr x v=(nth x.orders v.order.toNat).drp:=by simp [Dr,e,Xp,hd]
    have hV:As x v=decide (0<=(nth x.orders v.order.toNat).drp.place):=by simp [As,e,Xp,hd]
    rw [hG,hV];refine FT (.cons 0 (.cons 1 (.cons 2 (.cons 3 (.cons 4 (.cons 5 .nil .nil) .nil) (.cons 4 (.cons 3 (.cons 5 .nil .nil) .nil) .nil)) (.cons 4 (.cons 2 (.cons 3 (.cons 5 .nil .nil) .nil) .nil) .nil)) (.cons 4 (.cons 1 (.cons 2 (.cons 3 (.cons 5 .nil .nil) .nil) .nil) .nil) .nil)) (.cons 1 (.cons 0 (.cons 2 (.cons 3 (.cons 4 (.cons 5 .nil .nil) .nil) (.cons 4 (.cons 3 (.cons 5 .nil .nil) .nil) .nil)) (.cons 4 (.cons 2 (.cons 3 (.cons 5 .nil .nil) .nil) .nil) .nil)) (.cons 2 (.cons 0 (.cons 3 (.cons 4 (.cons 5 .nil .nil) .nil) (.cons 4 (.cons 3 (.cons 5 .nil .nil) .nil) .nil)) (.cons 3 (.cons 0 (.cons 4 (.cons 5 .nil .nil) .nil) .nil) .nil)) .nil)) .nil)) mixed Zd ?_
    refine Zc ?_
    repeat' first
     | refine DC ?_ ?_
     | exact we
     | simp (disch:=omega) only [go_sem,seval,↓reduceIte]
   ·have hG:Dr x v=(nth x.orders v.order.toNat).pick:=by simp [Dr,e,Xp,hd]
    have hV:As x v=decide (0<=(nth x.orders v.order.toNat).pick.place):=by simp [As,e,Xp,hd]
    rw [hG,hV];refine FT (.cons 0 (.cons 1 (.cons 2 (.cons 3 (.cons 4 (.cons 5 .nil .nil) .nil) (.cons 4 (.cons 3 (.cons 5 .nil .nil) .nil) .nil)) (.cons 4 (.cons 2 (.cons 3 (.cons 5 .nil .nil) .nil) .nil) .nil)) (.cons 4 (.cons 1 (.cons 2 (.cons 3 (.cons 5 .nil .nil) .nil) .nil) .nil) .nil)) (.cons 1 (.cons 0 (.cons 2 (.cons 3 (.cons 4 (.cons 5 .nil .nil) .nil) (.cons 4 (.cons 3 (.cons 5 .nil .nil) .nil) .nil)) (.cons 4 (.cons 2 (.cons 3 (.cons 5 .nil .nil) .nil) .nil) .nil)) (.cons 2 (.cons 0 (.cons 3 (.cons 4 (.cons 5 .nil .nil) .nil) (.cons 4 (.cons 3 (.cons 5 .nil .nil) .nil) .nil)) (.cons 3 (.cons 0 (.cons 4 (.cons 5 .nil .nil) .nil) .nil) .nil)) .nil)) .nil)) mixed Zd ?_
    refine Zc ?_
    repeat' first
     | refine DC ?_ ?_
     | exact we
     | simp (disch:=omega) only [go_sem,seval,↓reduceIte]
def UB (x:Inst) (r:Rte):Bool:=(decide (0<=r.typ)&&decide (r.typ<(x.types.length:Int))&&decide (0<=r.start)&&decide (r.start<=4096)&&decide (r.visits.length<=20))&&r.visits.all (As x)
theorem GG (x:Inst) (r:Rte) (ho:x.orders.length<=1048576) (ht:x.types.length<=1048576) (hl:r.visits.length<=1048576):PC 140 [.p (Zv x),.p (Wd r)] (.bool (UB x r)):=by
 refine Ze Tryz.func140 rfl ZbU ?_;simp (disch:=omega) only [Tryz.f140,go_sem,seval];refine gF ?_ ?_<;>intro h1<;>simp (disch:=omega) only [Sh.out h1,go_sem,seval,↓reduceIte]
 ·simp [UB];omega
 ·refine gF ?_ ?_<;>intro h2<;>simp (disch:=omega) only [Sh.out h2,go_sem,seval,↓reduceIte]
  ·simp [UB];omega
  ·refine gF ?_ ?_<;>intro h3<;>simp (disch:=omega) only [Sh.out h3,go_sem,seval,↓reduceIte]
   ·simp [UB];omega
   ·refine gF ?_ ?_<;>intro h4<;>simp (disch:=omega) only [Sh.out h4,go_sem,seval,↓reduceIte]
    ·simp [UB];omega
    ·refine cD ?_ ?_<;>intro h5<;>simp (disch:=omega) only [Sh.out h5,go_sem,seval]
     ·simp [UB];omega
     ·refine Zk [2,3] (fun k:Nat=> [(5,.p (.int .i64 k))]) (fun _=> [Zi x,XA r]) (fun k=>k<=r.visits.length/\ ∀j,j<k->As x (nth r.visits j)=true) (fun k=>r.visits.length-k) 0 Zb (Weak.mk ?_) ?_
      ·simp (disch:=omega) only [Zi,XA,go_sem,seval]
      ·rintro k ⟨hk,hno⟩;refine Am ?_;refine cD ?_ ?_<;>intro h<;>simp (disch:=omega) only [Sh.out h,go_sem,seval,↓reduceIte]
       ·have hk2:k<r.visits.length:=Za
        refine XJ [10,11] 12 mixed Zd Zd Zd Zb (Zc ?_);refine JE (OY x (nth r.visits k) ho) (Zc ?_);refine Z0 10 _ _ Zd (by refine Zc ?_;exact ⟨rfl,rfl⟩) ?_;refine Zc ?_;refine Z0 11 _ _ Zd (by refine Zc ?_;exact ⟨rfl,rfl⟩) (YN ?_);refine Zc ?_;refine ZK ?_ ?_<;>intro h6
        ·grind [Zt,UB]
        ·exact ⟨k+1,⟨Za,Zp.2 ⟨hno,by grind⟩⟩,Za,wk⟩
       ·have hkl:k=r.visits.length:=Za
        subst hkl
        have:r.visits.all (As x)=true:=by
         rw [Zx];intro v hv;obtain ⟨j,hj,rfl⟩:=ZN.1 hv
         grind [Zh]
        grind [UB]
@[go_sem high] theorem Zmq {k k':IntKind} {a b:Int} :Lf false [.p (.int k a),.p (.int k' b)]=some (.int k (max a b)):=by
 grind [Lf]
theorem Rj {l:List Tim} {m:Tim} {d:Int} {b:Bool} :Tb (l++ [m]) l.length d b=l++ [{ m with dep:=d,rest:=b }]:=by
 grind [Zh,Tb]
theorem eZ {x:Inst} {t:Typ} {sp:List Stp} {k:Nat} {d s m:Int} {h:She} (hk:k<sp.length) (ho:(nth sp k).opn<=(nth sp k).cls) (hm:h.miles=m) :
  (JR x t ⟨Ui t sp k,d,s,m⟩ (nth sp k).place (nth sp k).cls 14).2=(WI t sp k (Y7 x t sp k d) d s h).2 /\
  ((WI t sp k (Y7 x t sp k d) d s h).2=0->(JR x t ⟨Ui t sp k,d,s,m⟩ (nth sp k).place (nth sp k).cls 14).1=⟨(nth sp k).place,(Y7 x t sp k d).1,s+(Y7 x t sp k d).1-d,m+(Y7 x t sp k d).2.1⟩ /\
   (WI t sp k (Y7 x t sp k d) d s h).1=⟨max (Y7 x t sp k d).1 (nth sp k).opn+(nth sp k).serv,s+(Y7 x t sp k d).1-d,{ h with times_c:=false,times:=h.times++ [⟨(Y7 x t sp k d).1,max (Y7 x t sp k d).1 (nth sp k).opn,0,false⟩],miles:=m+(Y7 x t sp k d).2.1 }⟩):=by
 have hne: ¬k=sp.length:=Za
 have e:W5 x.net t.prof (Ui t sp k) (nth sp k).place d=Y7 x t sp k d:=by simp [Y7,Pi,hne]
 unfold JR WI
 grind
theorem fA {x:Inst} {t:Typ} {sp:List Stp} {d s m:Int} {h:She} (hm:h.miles=m) :
  (JR x t ⟨Ui t sp sp.length,d,s,m⟩ t.dst t.cls 15).2=(WI t sp sp.length (Y7 x t sp sp.length d) d s h).2 /\
  ((WI t sp sp.length (Y7 x t sp sp.length d) d s h).2=0->(JR x t ⟨Ui t sp sp.length,d,s,m⟩ t.dst t.cls 15).1=⟨t.dst,(Y7 x t sp sp.length d).1,s+(Y7 x t sp sp.length d).1-d,m+(Y7 x t sp sp.length d).2.1⟩ /\
   (WI t sp sp.length (Y7 x t sp sp.length d) d s h).1=⟨(Y7 x t sp sp.length d).1,s+(Y7 x t sp sp.length d).1-d,{ h with fin:=(Y7 x t sp sp.length d).1,miles:=m+(Y7 x t sp sp.length d).2.1 }⟩):=by
 have e:W5 x.net t.prof (Ui t sp sp.length) t.dst d=Y7 x t sp sp.length d:=by simp [Y7,Pi]
 unfold JR WI
 grind
def Zeu (s:StD):AM.Obj:= .cells [.p (.int .i64 s.place),.p (.int .i64 s.time),.p (.int .i64 s.driven),.p (.int .i64 s.miles)]
def JC (t:Typ) (sp:List Stp) (k:Nat) (L:Lab) (b:Bool):StD:=⟨Ui t sp k,ZM t L b,W1 L b,L.she.miles⟩
theorem ZlY {g:FuncId} {args:List V} {a c:PV} {H:List AM.Obj} {K:V->List AM.Obj->Prop} (h:ACalls Tryz.prog g args [] fun x H'=> ∃b:PV,x= .tup [.p a,.p b,.p c]/\H'= []) (k: ∀b:PV,K (.tup [.p a,.p b,.p c]) H) (ha:Xv 0 args=true:=by rfl):ACalls Tryz.prog g args H K :=
 (h.behind ha H).mono fun x H' hq=>by
  obtain ⟨y,H1,⟨b,rfl,rfl⟩,rfl,rfl⟩:=hq
  grind [shV,shVs]
theorem Yi {x:Inst} {l:List Vis} :(ZP x l).length=l.length:=by simp [ZP]
theorem G5 {x:Inst} {l:List Vis} {k:Nat} (h:k<l.length):nth (ZP x l) k=Xp x (nth l k):=by
 grind [Zh,ZP]
theorem UX {P Q:Prop} (h:Q) (e:Q->P:=by intro h;simp (disch:=omega) only [Zr,Zn,Xa,Z1,go_sem,seval];exact h):P:=e h
theorem wL (x:Inst) (r:Rte) (rests:List Bool) (c:Bool) (hok:TrpOk x (ZF x r) (ZP x r.visits)) (ho:x.orders.length<=1048576) (ht:x.types.length<=1048576) (hne:0<r.visits.length) (hp:UB x r=true) (hl:rests.length=r.visits.length+1) :
  ACalls Tryz.prog 182 [.p (Zv x),.p (Wd r),.p (.list c (rests.map eB))] [] fun y H'=> ∃d:PV,y= .tup [.p (F2 (Xd x (ZF x r) (ZP x r.visits) 0 (labF (ZF x r) r.start) rests).1.she),.p d,.p (.int .i64 (Xd x (ZF x r) (ZP x r.visits) 0 (labF (ZF x r) r.start) rests).2)]/\H'= []:=by
 have hp2:=hp;simp only [UB,ZE,Zs] at hp2;obtain ⟨⟨⟨⟨⟨p1,p2⟩,p3⟩,p4⟩,p5⟩,p6⟩:=hp2;have hvis: ∀k,k<r.visits.length->As x (nth r.visits k)=true:=fun k hk=>Zx.1 p6 _ (Zt hk)
 have hstop: ∀k,k<r.visits.length->Dr x (nth r.visits k)=nth (ZP x r.visits) k:=fun k hk=>by
  simp_all [As,Dr,G5]
 have hti:r.typ.toNat<x.types.length:=Za
 have hopn:=hok.opn;have hrst:=hok.rst;have htd:ZF x r=nth x.types r.typ.toNat:=rfl
 generalize hT:ZF x r=t at *
 have hsl:(ZP x r.visits).length=r.visits.length:=Yi
 generalize hS:ZP x r.visits=sp at *
 refine Zf [26] Tryz.func182 rfl Zck ?_;simp (disch:=omega) only [Tryz.f182,go_sem,seval];refine (GG x r ho ht Za).use (Zc ?_);rw [hp];refine Zc ?_;refine cD ?_ ?_<;>intro h0<;>simp (disch:=omega) only [Sh.out h0,<- htd,go_sem,seval,↓reduceIte]
 ·omega
 ·refine XJ [13] 14 mixed Zd Zd Zd Zb (Zc ?_);refine Zo (Ox t ⟨t.src,max t.opn r.start,0,0⟩ (nth rests 0) (by grind)) (Zc ?_);refine Z0 13 _ _ Zd (by refine Zc ?_;exact ⟨rfl,rfl⟩) (YN ?_);refine Zc ?_;refine XJ [6] 7 mixed Zd Zd Zd Zb (Zc ?_);refine Z0 6 _ _ Zd (by refine Zc ?_;exact ⟨rfl,rfl⟩) (YN ?_);refine Zc ?_;have hL0:LabR 0 (labF t r.start):=⟨by grind [labF],by simp [labF],by simp [labF,zShe]⟩
  have hS0:GP t ⟨t.src,max t.opn r.start,0,0⟩ (nth rests 0)=JC t sp 0 (labF t r.start) (nth rests 0):=by
   simp only [GP,JC,Ui,ZM,W1,labF,zShe,if_true]
   split<;>rfl
  simp (disch:=omega) only [hS0,go_sem,seval]
  refine ZZ [26] [2,3,4,6,9,10,11] (fun q:Nat×Lab×List Int=> [(12,.sl 7 0 q.2.2.length q.2.2.length),(13,.p (.int .i64 q.1))])
   (fun q=> [Zi x,XA r,.cells [.p (.bool false),.p (.int .i64 0),.p (.list true []),.p (.int .i64 0),.p (.int .i64 0)],Ym t,Zeu (JC t sp q.1 q.2.1 (nth rests q.1)),
    .cells [.p (.bool (X4 q.1 (ZM t q.2.1 (nth rests q.1)) (nth rests q.1) q.2.1.she).rest),.p (.int .i64 (X4 q.1 (ZM t q.2.1 (nth rests q.1)) (nth rests q.1) q.2.1.she).dep),.sl 6 0 (X4 q.1 (ZM t q.2.1 (nth rests q.1)) (nth rests q.1) q.2.1.she).times.length (X4 q.1 (ZM t q.2.1 (nth rests q.1)) (nth rests q.1) q.2.1.she).times.length,.p (.int .i64 0),.p (.int .i64 0)],
    .elems 4 ((X4 q.1 (ZM t q.2.1 (nth rests q.1)) (nth rests q.1) q.2.1.she).times.map eTim),.elems 1 (q.2.2.map eI)])
   (fun q=>q.1<=r.visits.length/\Xd x t sp 0 (labF t r.start) rests=Xd x t sp q.1 q.2.1 (rests.drop q.1)/\LabR q.1 q.2.1/\q.2.1.she.times.length=q.1/\q.2.1.she.fin=0/\(0<q.1->q.2.1.she.times_c=false)/\q.2.2.length=q.1) (fun q=>r.visits.length-q.1) (0,labF t r.start,[])
   ⟨Zb,Zb,hL0,by rfl,by rfl,Zb,Zb⟩ ((Weak.nilC (o:=5) (j:=2) 4 rfl rfl Zb).trans (Weak.ofNil 12 1 rfl Zb (Weak.mk ?_))) ?_
  ·simp (disch:=omega) only [Zi,XA,Ym,Zeu,JC,Ui,X4,labF,zShe,Zn,ZG,Xa,Z1,ZO,ZD,go_sem,seval]
  ·rintro ⟨k,L,ds⟩ ⟨hk,hrun,hL,hlen,hfin,hclip,hds⟩;simp only at hk hrun hL hlen hfin hclip hds
   have hmlen:(X4 k (ZM t L (nth rests k)) (nth rests k) L.she).times.length=k:=by grind [A0]
   have hd:=KU hok hL (nth rests k);have hs:=G3 hL (nth rests k);have hg:=LP hok hL (nth rests k);have hmi:=hL.mil
   generalize hm:X4 k (ZM t L (nth rests k)) (nth rests k) L.she=m at *
   have hmm:m.miles=L.she.miles:=by rw [<- hm,K5]
   have hmf:m.fin=0:=by grind [It]
   have hdrop:rests.drop k=nth rests k::rests.drop (k+1):=by grind [Ud,Zh]
   have hnx:nxtF x t sp k L (nth rests k)=WI t sp k (Y7 x t sp k (ZM t L (nth rests k))) (ZM t L (nth rests k)) (W1 L (nth rests k)) m:=by rw [nxtF,hm]
   rw [hdrop,Xd] at hrun;simp (disch:=omega) only [Zi,XA,Ym,Zeu,go_sem,seval];refine cD ?_ ?_<;>intro h<;>simp (disch:=omega) only [Sh.out h,go_sem,seval,↓reduceIte]
   ·have hk2:k<r.visits.length:=Za
    have hsp:=hok.stp _ (ZL (show k<sp.length by omega));refine XJ [10,11] 12 mixed Zd Zd Zd Zb (Zc ?_);refine JE (OY x (nth r.visits k) ho) (Zc ?_);refine Z0 10 _ _ Zd (by refine Zc ?_;exact ⟨rfl,rfl⟩) ?_;refine Zc ?_;refine Z0 11 _ _ Zd (by refine Zc ?_;exact ⟨rfl,rfl⟩) (YN ?_);simp (disch:=omega) only [hstop k hk2,go_sem,seval];obtain ⟨f1,f2⟩:=eZ (x:=x) (t:=t) (d:=ZM t L (nth rests k)) (s:=W1 L (nth rests k)) (h:=m) (show k<sp.length by omega) hsp.2.1 hmm
    have he2:W5 x.net t.prof (Ui t sp k) (nth sp k).place (ZM t L (nth rests k))=Y7 x t sp k (ZM t L (nth rests k)):=by
     grind [Y7,Pi]
    refine Yn (OX x t (JC t sp k L (nth rests k)) (nth sp k).place (nth sp k).cls 14 hok.net ?_ ?_ ?_ ?_) ?_
    ·grind [JC]
    ·grind [JC,fY]
    ·grind [JC,fY]
    ·grind [JC,fY]
    have f1':(JR x t (JC t sp k L (nth rests k)) (nth sp k).place (nth sp k).cls 14).2=(nxtF x t sp k L (nth rests k)).2:=by rw [hnx,<- f1];rfl
    refine Zc ?_;rw [f1'];refine cD ?_ ?_<;>intro h3<;>simp (disch:=omega) only [Sh.out h3,go_sem,seval,↓reduceIte]
    ·rw [if_neg h3] at hrun;rw [hrun];simp only [W3,zShe];exact ⟨_,_,Weak.mk (by simp (disch:=omega) only [Zn,go_sem,seval]),.list true [],rfl,rfl⟩
    ·have h3':(nxtF x t sp k L (nth rests k)).2=0:=Z3.1 h3;rw [if_pos h3'] at hrun;have hL':=Me hok Za hL h3';rw [hnx] at h3';obtain ⟨f3,f4⟩:=f2 h3';have f3':(JR x t (JC t sp k L (nth rests k)) (nth sp k).place (nth sp k).cls 14).1=⟨(nth sp k).place,(Y7 x t sp k (ZM t L (nth rests k))).1,W1 L (nth rests k)+(Y7 x t sp k (ZM t L (nth rests k))).1-ZM t L (nth rests k),L.she.miles+(Y7 x t sp k (ZM t L (nth rests k))).2.1⟩:=f3
     have hL2:(nxtF x t sp k L (nth rests k)).1=⟨max (Y7 x t sp k (ZM t L (nth rests k))).1 (nth sp k).opn+(nth sp k).serv,W1 L (nth rests k)+(Y7 x t sp k (ZM t L (nth rests k))).1-ZM t L (nth rests k),{ m with times_c:=false,times:=m.times++ [⟨(Y7 x t sp k (ZM t L (nth rests k))).1,max (Y7 x t sp k (ZM t L (nth rests k))).1 (nth sp k).opn,0,false⟩],miles:=L.she.miles+(Y7 x t sp k (ZM t L (nth rests k))).2.1 }⟩:=by grind
     simp (disch:=omega) only [f3',go_sem,seval];refine XJ [13] 14 mixed Zd Zd Zd Zb (Zc ?_);refine Z0 13 _ _ Zd (by refine Zc ?_;exact ⟨rfl,rfl⟩) (YN ?_);refine Zc ?_
     generalize (nxtF x t sp k L (nth rests k)).1=L2 at *
     have hS1:GP t ⟨(nth sp k).place,max (Y7 x t sp k (ZM t L (nth rests k))).1 (nth sp k).opn+(nth sp k).serv,W1 L (nth rests k)+(Y7 x t sp k (ZM t L (nth rests k))).1-ZM t L (nth rests k),L.she.miles+(Y7 x t sp k (ZM t L (nth rests k))).2.1⟩ (nth rests (k+1))=JC t sp (k+1) L2 (nth rests (k+1)):=by
      rw [hL2];simp only [GP,JC,Ui,ZM,W1,Nat.add_sub_cancel,if_neg (show ¬k+1=0 by omega)]
      split<;>rfl
     have hM:X4 (k+1) (ZM t L2 (nth rests (k+1))) (nth rests (k+1)) L2.she= { m with times_c:=false,times:=m.times++ [⟨(Y7 x t sp k (ZM t L (nth rests k))).1,max (Y7 x t sp k (ZM t L (nth rests k))).1 (nth sp k).opn,ZM t L2 (nth rests (k+1)),nth rests (k+1)⟩],miles:=L.she.miles+(Y7 x t sp k (ZM t L (nth rests k))).2.1 } :=by
      have he:L2.she= { m with times_c:=false,times:=m.times++ [⟨(Y7 x t sp k (ZM t L (nth rests k))).1,max (Y7 x t sp k (ZM t L (nth rests k))).1 (nth sp k).opn,0,false⟩],miles:=L.she.miles+(Y7 x t sp k (ZM t L (nth rests k))).2.1 } :=by rw [hL2]
      rw [he,X4,if_neg Za,Nat.add_sub_cancel]
      grind [Rj]
     have hd2:=KU hok hL' (nth rests (k+1));refine ZB 8 mixed Zd Zd (Zc ?_);refine Zo (Ox t ⟨(nth sp k).place,max (Y7 x t sp k (ZM t L (nth rests k))).1 (nth sp k).opn+(nth sp k).serv,W1 L (nth rests k)+(Y7 x t sp k (ZM t L (nth rests k))).1-ZM t L (nth rests k),L.she.miles+(Y7 x t sp k (ZM t L (nth rests k))).2.1⟩ (nth rests (k+1)) (by grind)) (Zc ?_);simp (disch:=omega) only [hS1,go_sem,seval];refine ⟨(k+1,L2,ds++ [L2.since]),⟨Za,hrun,hL',by grind,by grind,by grind,by simp [hds]⟩,Za,Weak.mk ?_⟩
     simp (disch:=omega) only [hM,hmlen,ZJ,ZC,ZG,XD,Zr,Zn,go_sem,seval];exact ⟨rfl,by grind⟩
   ·have hkl:k=sp.length:=Za
    subst hkl;obtain ⟨f1,f2⟩:=fA (x:=x) (t:=t) (sp:=sp) (d:=ZM t L (nth rests sp.length)) (s:=W1 L (nth rests sp.length)) (h:=m) hmm
    have he2:W5 x.net t.prof (Ui t sp sp.length) t.dst (ZM t L (nth rests sp.length))=Y7 x t sp sp.length (ZM t L (nth rests sp.length)):=by simp [Y7,Pi]
    refine Yn (OX x t (JC t sp sp.length L (nth rests sp.length)) t.dst t.cls 15 hok.net ?_ ?_ ?_ ?_) ?_
    ·grind [JC]
    ·grind [JC,fY]
    ·grind [JC,fY]
    ·grind [JC,fY]
    have f1':(JR x t (JC t sp sp.length L (nth rests sp.length)) t.dst t.cls 15).2=(nxtF x t sp sp.length L (nth rests sp.length)).2:=by rw [hnx,<- f1];rfl
    refine Zc ?_;rw [f1'];have hdl:rests.drop (sp.length+1)= []:=CO Za;rw [hdl,Xd] at hrun;refine cD ?_ ?_<;>intro h3<;>simp (disch:=omega) only [Sh.out h3,go_sem,seval,↓reduceIte]
    ·rw [if_neg h3] at hrun;rw [hrun];simp only [W3,zShe];exact ⟨_,_,Weak.mk (by simp (disch:=omega) only [Zn,go_sem,seval]),.list true [],rfl,rfl⟩
    ·have h3':(nxtF x t sp sp.length L (nth rests sp.length)).2=0:=Z3.1 h3;rw [if_pos h3'] at hrun;rw [hnx] at h3';obtain ⟨f3,f4⟩:=f2 h3';have f3':(JR x t (JC t sp sp.length L (nth rests sp.length)) t.dst t.cls 15).1=⟨t.dst,(Y7 x t sp sp.length (ZM t L (nth rests sp.length))).1,W1 L (nth rests sp.length)+(Y7 x t sp sp.length (ZM t L (nth rests sp.length))).1-ZM t L (nth rests sp.length),L.she.miles+(Y7 x t sp sp.length (ZM t L (nth rests sp.length))).2.1⟩:=f3;rw [hrun,hnx,f4];simp (disch:=omega) only [f3',go_sem,seval];refine Zq (Weak.fz (o:=6) (by rfl)) ?_
     refine Zq (Weak.fz (o:=7) (by rfl)) (Zg [] _ _ _ _ (UX ?_))
     have hmc:m.times_c=false:=by
      grind [X4]
     exact ⟨_,_,Weak.mk (by simp (disch:=omega) only [hmc,go_sem,seval]),.list false (ds.map eI++ [.int .i64 (W1 L (nth rests sp.length)+(Y7 x t sp sp.length (ZM t L (nth rests sp.length))).1-ZM t L (nth rests sp.length))]),rfl,rfl⟩
theorem rE (x:Inst) (r:Rte) (rests:List Bool) (c:Bool) (hok:TrpOk x (ZF x r) (ZP x r.visits)) (ho:x.orders.length<=1048576) (ht:x.types.length<=1048576) (hne:0<r.visits.length) (hp:UB x r=true) (hl:rests.length=r.visits.length+1) :
  PT 141 [.p (Zv x),.p (Wd r),.p (.list c (rests.map eB))] [.p (F2 (Xd x (ZF x r) (ZP x r.visits) 0 (labF (ZF x r) r.start) rests).1.she),.p (.int .i64 (Xd x (ZF x r) (ZP x r.visits) 0 (labF (ZF x r) r.start) rests).2)]:=by
 have cr:=wL x r rests c hok ho ht hne hp hl;generalize (Xd x (ZF x r) (ZP x r.visits) 0 (labF (ZF x r) r.start) rests)=q at cr ⊢;obtain ⟨L,e⟩:=q;refine Zf [] Tryz.func141 rfl ZbV ?_;simp (disch:=omega) only [Tryz.f141,go_sem,seval];refine ZlY cr fun d=>Zc ?_;exact we
def Ez (l:List Bool) (n:Nat):Option (List Bool):=(YC (l.drop n)).map (l.take n++ ·)
def Rq : Option (List Bool)->PV
 | some l=> .list false (l.map eB)
 | none=> .list true []
theorem K8 : ∀m:Nat,YC (List.replicate m true)=none
 | 0=>rfl
 | m+1=>by rw [K3,YC,K8 m];rfl
theorem Ix : ∀(a b r:List Bool),YC b=some r->YC (a++b)=some (a++r)
 | [],b,r,h=>h
 | x::a,b,r,h=>by rw [ZO,YC,Ix a b r h];rfl
theorem nB (a:List Bool) (m:Nat):YC (a++false::List.replicate m true)=some (a++true::List.replicate m false):=by
 grind [Ix,YC,K8]
theorem OP {o:List Bool} {i:Nat} {b:Bool} :(o.map eB).set i (.bool b)=(o.set i b).map eB:=by rw [U6];rfl
theorem nA (l:List Bool) (c:Bool) (n:Nat) (hn:n<=l.length) (h0:0<l.length) (hl:l.length<=1048576):PT 142 [.p (.list c (l.map eB)),.p (.int .i64 (n:Nat))] [.p (Rq (Ez l n)),.p (.bool (Ez l n).isSome)]:=by
 refine Zf [8] Tryz.func142 rfl ZbW ?_;simp (disch:=omega) only [Tryz.f142,go_sem,seval];rw [if_pos ⟨Za,Za⟩];refine Zc ?_;refine ZZ [8] [1] (fun q:Nat×List Bool=> [(6,.sl 0 0 q.2.length q.2.length),(7,.p (.int .i64 ((q.1:Int)-1)))]) (fun q=> [.elems 1 (q.2.map eB)]) (fun q=>n<=q.1/\q.1<=l.length/\q.2=l.take q.1++List.replicate (l.length-q.1) false/\l.drop q.1=List.replicate (l.length-q.1) true) (fun q=>q.1) (l.length,l) (by simp;omega) (Weak.mk ?_) ?_
 ·simp (disch:=omega) only [go_sem,seval]
 ·rintro ⟨j,o⟩ ⟨hj1,hj2,ho,hjt⟩;simp only at hj1 hj2 ho hjt
  have hol:o.length=l.length:=by grind
  refine Zc ?_;refine cD ?_ ?_<;>intro h<;>simp (disch:=omega) only [Sh.out h,go_sem,seval,↓reduceIte]
  ·obtain ⟨i,rfl⟩: ∃i,j=i+1:=⟨j-1,Za⟩
   have hij:(((i+1:Nat):Int)-1)=(i:Int):=Za
   have hat:nth o i=nth l i:=by
    grind [Zh]
   have HA:l.drop i=nth l i::List.replicate (l.length-(i+1)) true:=by
    grind [Ud,Zh]
   have hio:i<o.length:=Za
   simp (disch:=first | omega | (simp only [ZC,ZG,ZJ,Z2,Xi,XN]<;>omega)) only [Int.add_sub_cancel,U4,hat,hio,go_sem,seval,↓reduceIte];refine cD ?_ ?_<;>intro h2<;>simp (disch:=omega) only [Sh.out h2,go_sem,seval]
   ·have hf:nth l i=false:=by grind
    have hres:Ez l n=some (o.set i true):=by
     rw [hf] at HA
     have e:l.drop n=(l.drop n).take (i-n)++false::List.replicate (l.length-(i+1)) true:=by
      rw [<- HA,show l.drop i=(l.drop n).drop (i-n) by simp_all,List.take_append_drop]
     rw [Ez,e,nB,ho];simp only [AS,Qr]
     have e2:l.take (i+1)=l.take n++(l.drop n).take (i-n)++ [nth l i]:=by
      rw [XZ Za,Zh Za]
      congr 1
      have:l.take i=l.take (n+(i-n)):=by congr 1;omega
      grind
     rw [e2,hf]
     have el:(l.take n++(l.drop n).take (i-n)).length=i:=by simp;omega
     rw [QQ (l.take n++(l.drop n).take (i-n)),Fe _ _ Za,el];simp
    rw [hres];simp (disch:=first | omega | (simp only [ZC,ZG,ZJ,Z2,Xi,XN]<;>omega)) only [OP,go_sem,seval,↓reduceIte];refine Zq (Weak.fz (o:=0) (by rfl)) ?_;refine Zg [] _ _ _ _ ?_;simp (disch:=omega) only [Zr,Zn,Z1,go_sem,seval];simp only [QW,if_true];exact we (by simp (disch:=omega) only [Rq,Ko,go_sem,seval])
   ·have hf:nth l i=true:=by grind
    simp (disch:=first | omega | (simp only [ZC,ZG,ZJ,Z2,Xi,XN]<;>omega)) only [OP,go_sem,seval];refine ⟨(i,o.set i false),⟨Za,Za,?_,?_⟩,Za,Weak.mk (by simp (disch:=first | omega | (simp only [ZC,ZG,ZJ,Z2,Xi,XN]<;>omega)) only [QW,go_sem,seval])⟩
    ·grind
    grind
  ·have hjn:j=n:=Za
   have hres:Ez l n=none:=by grind [Ez,K8]
   rw [hres];exact we (by simp (disch:=omega) only [Rq,AP,go_sem,seval])
theorem cN {r q:List Bool} :Ez (r++q) r.length=(YC q).map (r++ ·):=by simp [Ez]
theorem dC {l:List Bool} :Rq (some l)= .list false (l.map eB):=rfl
theorem dB : Rq none= .list true []:=rfl
def HK (b:Option Lab):She:=match b with | some L=>L.she | none=>zShe
def HH (r:List Bool) (cur:Option (List Bool)):List (List Bool):=match cur with | some q=>(YY q).map (r++ ·) | none=> []
theorem D6 {r s:List Bool} :HH r (some s)=(r++s)::HH r (YC s):=by
 grind [HH,fromB_next]
theorem OC {x:Inst} {t:Typ} {sp:List Stp} : ∀(bs:List Bool) (k:Nat) (L:Lab),¬(Xd x t sp k L bs).2=0->(Xd x t sp k L bs).1=W3
 | [],k,L,h=>by simp [Xd] at h
 | b::bs,k,L,h=>by
  rw [Xd] at h ⊢
  split
  ·rename_i c;rw [if_pos c] at h;exact OC bs _ _ h
  ·rfl
theorem iL (x:Inst) (r:Rte) (hok:TrpOk x (ZF x r) (ZP x r.visits)) (ho:x.orders.length<=1048576) (ht:x.types.length<=1048576) (hne:0<r.visits.length) (hp:UB x r=true) (hl:r.rests.length<=r.visits.length+1) :
  PT 91 [.p (Zv x),.p (Wd r)] [.p (F2 (XB x r).1),.p (.int .i64 (XB x r).2)]:=by
 have hsl:(ZP x r.visits).length=r.visits.length:=Yi;have hp2:=hp;simp only [UB,ZE,Zs] at hp2;have hv20:=hp2.1.2;have hrun:=fun rests (c:Bool) (h:rests.length=r.visits.length+1)=>rE x r rests c hok ho ht hne hp h;have hopt:=fun bs=>YD (x:=x) (t:=ZF x r) (sp:=ZP x r.visits) bs 0 (labF (ZF x r) r.start);unfold XB Yw
 generalize hS:ZP x r.visits=sp at *
 generalize ZF x r=t at *
 generalize labF t r.start=L0 at *
 refine Zf [5,6] Tryz.func91 rfl zA ?_;simp (disch:=omega) only [Tryz.f91,go_sem,seval];refine (GG x r ho ht Za).use (Zc ?_);rw [hp];refine Zc ?_;refine cD ?_ ?_<;>intro h0<;>simp (disch:=omega) only [Sh.out h0,go_sem,seval,↓reduceIte]
 ·omega
 ·refine Wa (Lq 3 rfl rfl (Zc ?_));refine ⟨_,_,Ol (e:=4) rfl Tryz.underlying40 Zd rfl rfl rfl ?_ ?_ ?_,?_⟩
  ·simp
  ·simp;omega
  ·intro q hq;obtain ⟨b,_,rfl⟩:=Xn.1 hq
   rfl
  ·have hpl:(YT r.rests (sp.length+1)).length=r.visits.length+1:=by simp [YT];omega
   have hpad:r.rests.map eB++(PV.bool false::List.replicate r.visits.length (PV.bool false)).drop (r.rests.map eB).length=(YT r.rests (sp.length+1)).map eB:=by
    rw [YT,XD,<- K3,List.drop_replicate,AO,hsl,Z2];rfl
   simp only [Xa,Z1];rw [hpad];have h0r:=hopt (YT r.rests (sp.length+1))
   have cn: ∀s:List Bool,(r.rests++s).length=r.visits.length+1->PT 142 [.p (.list false ((r.rests++s).map eB)),.p (.int .i64 (r.rests.length:Nat))] [.p (Rq ((YC s).map (r.rests++ ·))),.p (.bool ((YC s).map (r.rests++ ·)).isSome)]:=fun s hs=>by
    grind [nA,cN]
   have e1:(Xd x t sp 0 L0 (YT r.rests (sp.length+1))).1.she=HK (Wi (XE x t sp) 0 L0 (YT r.rests (sp.length+1))):=by
    rw [h0r]
    split
    ·rfl
    ·rename_i c;rw [OC _ _ _ c];rfl
   have e2:decide ((Xd x t sp 0 L0 (YT r.rests (sp.length+1))).2=0)=(Wi (XE x t sp) 0 L0 (YT r.rests (sp.length+1))).isSome:=by
    grind
   have hrp:=hrun (YT r.rests (sp.length+1)) false hpl;have hall:XH r.rests (sp.length+1)=HH r.rests (some (List.replicate (sp.length+1-r.rests.length) false)):=rfl;refine Zq (Weak.fz (o:=3) (by rfl)) (Zg [] _ _ _ _ (UX ?_));rw [if_pos hpl];refine Yn hrp (Zc ?_);refine Yn (cn (List.replicate (sp.length+1-r.rests.length) false) hpl) ?_;simp (disch:=omega) only [e1,e2,go_sem,seval]
   have hfm:Vb Wn none ((XH r.rests (sp.length+1)).filterMap (Wi (XE x t sp) 0 L0))=Vb Wn (Wi (XE x t sp) 0 L0 (YT r.rests (sp.length+1))) ((HH r.rests (YC (List.replicate (sp.length+1-r.rests.length) false))).filterMap (Wi (XE x t sp) 0 L0)):=by
    rw [hall,D6,List.filterMap_cons];rw [show r.rests++List.replicate (sp.length+1-r.rests.length) false=YT r.rests (sp.length+1) from rfl]
    cases Wi (XE x t sp) 0 L0 (YT r.rests (sp.length+1)) with
    | none=>rfl
    | some L=>rfl
   clear hall;generalize Vb Wn none ((XH r.rests (sp.length+1)).filterMap (Wi (XE x t sp) 0 L0))=res at hfm ⊢;generalize (Xd x t sp 0 L0 (YT r.rests (sp.length+1))).2=err0
   refine Zk [2,3,4,8,9] (fun q:Option (List Bool)×Option Lab=> [(7,.p (Rq (q.1.map (r.rests++ ·)))),(10,.p (.bool q.2.isSome)),(11,.p (.bool (q.1.map (r.rests++ ·)).isSome))])
    (fun q=> [Zi x,XA r,.cells [.p (.bool false),.p (.int .i64 0),.p (.list true []),.p (.int .i64 0),.p (.int .i64 0)],.dead,.cells [.p (.bool (HK q.2).rest),.p (.int .i64 (HK q.2).dep),.p (.list (HK q.2).times_c ((HK q.2).times.map eTim)),.p (.int .i64 (HK q.2).fin),.p (.int .i64 (HK q.2).miles)]])
    (fun q=>res=Vb Wn q.2 ((HH r.rests q.1).filterMap (Wi (XE x t sp) 0 L0))/\ ∀s,q.1=some s->s.length=sp.length+1-r.rests.length) (fun q=>(HH r.rests q.1).length)
    (YC (List.replicate (sp.length+1-r.rests.length) false),Wi (XE x t sp) 0 L0 (YT r.rests (sp.length+1))) ⟨hfm,fun s hs=>by have:=fromB_next.nlen _ _ hs;grind⟩ (Weak.mk ?_) ?_
   ·simp (disch:=omega) only [Zi,XA,go_sem,seval]
   ·rintro ⟨cur,b⟩ ⟨hR,hcl⟩;simp only at hR hcl
    cases cur with
    | none =>
     simp only [HH,List.filterMap_nil] at hR;simp (disch:=omega) only [Option.map_none,AP,dB,Zi,XA,go_sem,seval]
     cases b with
     | none =>
      rw [Vb] at hR;subst hR;simp (disch:=omega) only [AP,W9,go_sem,seval];exact we (by simp (disch:=omega) only [zShe,Zn,go_sem,seval])
     | some m =>
      rw [Vb] at hR;subst hR;simp (disch:=omega) only [Ko,YB,HK,go_sem,seval];exact we
    | some s =>
     have hsl2:=hcl s rfl;rw [D6,List.filterMap_cons,hopt] at hR
     have hmu:(HH r.rests (YC s)).length<(HH r.rests (some s)).length:=by rw [D6];simp
     have hnl: ∀s',YC s=some s'->s'.length=sp.length+1-r.rests.length:=fun s' hs'=>by grind [fromB_next.nlen]
     have hlen:(r.rests++s).length=r.visits.length+1:=by simp;omega
     have hr1:=hrun (r.rests++s) false hlen;have cn1:=cn s hlen;rw [XD] at hr1 cn1;simp (disch:=omega) only [AS,Ko,dC,Zi,XA,go_sem,seval];generalize Xd x t sp 0 L0 (r.rests++s)=g at hR hr1;obtain ⟨Lg,eg⟩:=g;simp only at hR hr1;refine Yn hr1 (Zc ?_);refine gT ?_ ?_<;>intro h1<;>simp (disch:=omega) only [Sh.out h1,go_sem,seval,↓reduceIte]
     ·subst h1
      cases b with
      | none =>
       simp (disch:=omega) only [AP,W9,go_sem,seval];refine Yn cn1 (Zc ?_);exact ⟨(YC s,some Lg),⟨hR,hnl⟩,hmu,Weak.mk (by simp (disch:=omega) only [HK,Ko,go_sem,seval])⟩
      | some m =>
       simp (disch:=omega) only [Ko,YB,HK,go_sem,seval];refine cD ?_ ?_<;>intro h2<;>simp (disch:=omega) only [Sh.out h2,go_sem,seval,↓reduceIte]
       ·refine Yn cn1 ?_;refine Zc ?_;exact ⟨(YC s,some Lg),⟨by rw [hR];simp only [if_true,Vb,Wn,h2],hnl⟩,hmu,Weak.mk (by simp (disch:=omega) only [Ko,go_sem,seval])⟩
       ·refine Yn cn1 ?_;refine Zc ?_;exact ⟨(YC s,some m),⟨by rw [hR];simp only [if_true,Vb,Wn,h2,YH],hnl⟩,hmu,Weak.mk (by simp (disch:=omega) only [Ko,go_sem,seval])⟩
     ·rw [if_neg h1] at hR;refine Yn cn1 (Zc ?_);exact ⟨(YC s,b),⟨hR,hnl⟩,hmu,wk⟩
def eR (p:Bool×List Int):PV:= .list p.1 (p.2.map eI)
@[go_sem] theorem ZqX (p:Bool×List Int):eR p= .list p.1 (p.2.map eI):=Zl rfl rfl
theorem kB (L:List (Bool×List Int)) (c:Bool) (d:Nat) (hd:d<=3) (hL:L.length<=1048576) (h: ∀p∈L,p.2.length=d):PC 227 [.p (.list c (L.map eR)),.p (.int .i64 (d:Nat))] (.bool true):=by
 refine Ze Tryz.func227 rfl ZcJ ?_
 have e1: ¬(d:Int)<0:=Za
 have e2: ¬(3:Int)<d:=Za
 simp (disch:=omega) only [Tryz.f227,e1,e2,go_sem,seval];refine Zk [0,1] (fun k:Nat=> [(5,.p (.int .i64 k))]) (fun _=> []) (fun k=>k<=L.length) (fun k=>L.length-k) 0 Zb (Weak.mk ?_) ?_
 ·simp (disch:=omega) only [go_sem,seval,↓reduceIte]
 ·intro k hk;refine Zc ?_;refine cD ?_ ?_<;>intro h1<;>simp (disch:=omega) only [Sh.out h1,go_sem,seval,↓reduceIte]
  ·have hk2:k<L.length:=Za
   have hp:=h _ (Zt hk2);simp (disch:=omega) only [hp,go_sem,seval];exact ⟨k+1,Za,Za,wk⟩
def EM (L:List (Bool×List Int)) (k j:Nat):Int:=((L.take k).map fun p=>nth p.2 j).sum
theorem HY {L:List (Bool×List Int)} {k j:Nat} (h:k<L.length):EM L (k+1) j=EM L k j+nth (nth L k).2 j:=by
 grind [EM,XZ,Zh]
theorem Nq {L:List (Bool×List Int)} {d j:Nat} (h: ∀p∈L,p.2.length=d/\ ∀n∈p.2,0<=n/\n<=1000) (hj:j<d): ∀k,k<=L.length->0<=EM L k j/\EM L k j<=1000*(k:Int)
 | 0,_=>by simp [EM]
 | k+1,hk=>by
  have ih:=Nq h hj k Za;obtain ⟨h1,h2⟩:=h _ (Zt (show k<L.length by omega));have:=h2 _ (Zt (show j<(nth L k).2.length by omega))
  grind [HY]
def xD (L:List (Bool×List Int)) (d:Nat):List Int:=(List.range d).map fun j=>EM L L.length j
theorem xC (L:List (Bool×List Int)) (c:Bool) (d:Nat) (hd:1<=d/\d<=3) (hL:L.length<=1048576) (h: ∀p∈L,p.2.length=d/\ ∀n∈p.2,0<=n/\n<=1000) :
  PT 213 [.p (.list c (L.map eR)),.p (.int .i64 (d:Nat))] [.p (.list false ((xD L d).map eI)),.p (.int .i64 0)]:=by
 refine Zf [13] Tryz.func213 rfl Zcz ?_;simp (disch:=omega) only [Tryz.f213,go_sem,seval];refine (kB L c d hd.2 hL fun p hp=>(h p hp).1).use (Zc ?_);refine ZZ [13] [0,1] (fun q:Nat×List Int=> [(6,.sl 0 0 q.2.length q.2.length),(7,.p (.int .i64 q.1))]) (fun q=> [.elems 1 (q.2.map eI)]) (fun q=>q.1<=d/\q.2=(List.range q.1).map fun j=>EM L L.length j) (fun q=>d-q.1) (0,[]) Zb (Weak.ofNil 6 1 rfl Zb (Weak.mk ?_)) ?_
 ·simp (disch:=omega) only [Zn,ZG,go_sem,seval,↓reduceIte]
 ·rintro ⟨j,o⟩ ⟨hj,ho⟩;simp only at hj ho
  have hol:o.length=j:=by rw [ho];simp
  refine Zc ?_;refine cD ?_ ?_<;>intro h1<;>simp (disch:=omega) only [Sh.out h1,go_sem,seval,↓reduceIte]
  ·have hj2:j<d:=Za
   refine Zk [0,1,6,7] (fun k:Nat=> [(8,.p (.int .i64 (EM L k j))),(9,.p (.int .i64 k))]) (fun _=> [.elems 1 (o.map eI)]) (fun k=>k<=L.length) (fun k=>L.length-k) 0 Zb (Weak.mk ?_) ?_
   ·simp (disch:=omega) only [EM,Vq,Zn,List.sum_nil,go_sem,seval,↓reduceIte]
   ·intro k hk;refine Zc ?_;refine cD ?_ ?_<;>intro h2<;>simp (disch:=omega) only [Sh.out h2,go_sem,seval,↓reduceIte]
    ·have hk2:k<L.length:=Za
     obtain ⟨g1,g2⟩:=h _ (Zt hk2);have g3:=g2 _ (Zt (show j<(nth L k).2.length by omega));have g4:=Nq h hj2 k hk;have g5:=HY (j:=j) hk2
     have g6:j<(nth L k).2.length:=Za
     refine Zc ?_;exact ⟨k+1,Za,Za,Weak.mk (by simp (disch:=omega) only [g5,go_sem,seval])⟩
    ·have hkl:k=L.length:=Za
     subst hkl;refine ⟨(j+1,o++ [EM L L.length j]),⟨Za,by grind [X6]⟩,Za,Weak.mk (by simp (disch:=omega) only [ZJ,ZC,ZG,XD,Zr,Zn,go_sem,seval])⟩
  ·have hjd:j=d:=Za
   subst hjd;refine Zq (Weak.fz (o:=0) (by rfl)) ?_;refine Zg [] _ _ _ _ ?_;simp (disch:=omega) only [Zr,Zn,Z1,go_sem,seval];rw [xD,<- ho];exact we
theorem kL (a b:List Int) (c d:Bool) (ha:a.length<=1048576) (hb:b.length<=1048576):PC 139 [.p (.list c (a.map eI)),.p (.list d (b.map eI))] (.bool (V4 a b)):=by
 refine Ze Tryz.func139 rfl ZbT ?_;simp (disch:=omega) only [Tryz.f139,go_sem,seval];refine cD ?_ ?_<;>intro h1<;>simp (disch:=omega) only [Sh.out h1,go_sem,seval]
 ·grind [V4]
 ·have h1':a.length=b.length:=Za
  refine Zk [0,1] (fun k:Nat=> [(5,.p (.int .i64 k))]) (fun _=> []) (fun k=>k<=a.length/\ ∀j,j<k->nth a j<=nth b j) (fun k=>a.length-k) 0 Zb (Weak.mk ?_) ?_
  ·simp (disch:=omega) only [go_sem,seval,↓reduceIte]
  ·rintro k ⟨hk,hno⟩;refine Zc ?_;refine cD ?_ ?_<;>intro h2<;>simp (disch:=omega) only [Sh.out h2,go_sem,seval,↓reduceIte]
   ·have hk2:k<a.length:=Za
    refine Xq (Zc ?_);refine cD ?_ ?_<;>intro h3<;>simp (disch:=omega) only [Sh.out h3,go_sem,seval,↓reduceIte]
    ·grind [V4]
    ·exact ⟨k+1,⟨Za,Zp.2 ⟨hno,Za⟩⟩,Za,wk⟩
   ·have hkl:k=a.length:=Za
    simp_all [V4]
theorem jV (x:Inst) (ht:x.types.length<=1048576):PC 214 [.p (Zv x)] (.int .i64 (dimsOf x.types)):=by
 refine Ze Tryz.func214 rfl ZcA ?_;simp (disch:=omega) only [Tryz.f214,go_sem,seval];refine cD ?_ ?_<;>intro h1<;>simp (disch:=omega) only [Sh.out h1,go_sem,seval,↓reduceIte]
 ·grind [dimsOf]
 simp_all [dimsOf]
structure LdOk (x:Inst):Prop where
 ord:x.orders.length<=10
 typ:x.types.length<=1048576
 dim:1<=dimsOf x.types/\dimsOf x.types<=3
 load: ∀o∈x.orders,(o.load.length:Int)=dimsOf x.types/\ ∀n∈o.load,0<=n/\n<=1000
theorem QP {x:Inst} (h:InstOk x):LdOk x:=by
 have ht:=h.types.1;simp only [rng,Zs] at ht;have ho:=h.orders
 have h0:0<x.types.length:=Za
 have hcap:=h.types.2 0 h0;unfold UD at hcap;obtain ⟨⟨⟨⟨⟨⟨⟨⟨_,_⟩,_⟩,_⟩,hcap⟩,_⟩,_⟩,_⟩,_⟩:=hcap;simp only [VH,ZE,Zs,rng] at hcap;refine ⟨ho.1,Za,Za,fun o hm=> ?_⟩;obtain ⟨i,hi,rfl⟩:=ZN.1 hm;have:=(ho.2 i hi).load;rw [Zh hi] at this
 simp_all [loadOk,rng]
def Hp (x:Inst) (l:List Vis) (n k:Nat):List (Bool×List Int):=((List.range k).filter fun i=>Fo x l n i&&hasO l i).map fun i=>((nth x.orders i).load_c,(nth x.orders i).load)
theorem aS {x:Inst} {l:List Vis} {n k:Nat} :Hp x l n (k+1)=Hp x l n k++if (Fo x l n k&&hasO l k)=true then [((nth x.orders k).load_c,(nth x.orders k).load)] else []:=by
 grind [Hp,X6]
theorem iQ {x:Inst} {l:List Vis} {n:Nat} : ∀k,(Hp x l n k).length<=k:=fun k=>by
 grind [Hp]
theorem sP {x:Inst} {l:List Vis} {n k:Nat} (h:LdOk x) (hk:k<=x.orders.length): ∀p∈Hp x l n k,p.2.length=(dimsOf x.types).toNat/\ ∀m∈p.2,0<=m/\m<=1000:=fun p hp=>by
 obtain ⟨i,hi,rfl⟩:=Xn.1 hp;have hi2:=Zz.1 (QX.1 hi).1;have:=h.load _ (Zt (show i<x.orders.length by omega))
 grind
theorem iR {x:Inst} {l:List Vis} {n:Nat} :xD (Hp x l n x.orders.length) (dimsOf x.types).toNat=Wm x l n:=by
 unfold xD Wm
 grind [EM,Hp,Ek,Kv]
def zK (x:Inst) (l:List Vis) (n i k:Nat):Bool:=(l.take (min k n)).foldl (fun on v=>if v.order=(i:Int) then !v.drp else on) (decide ((nth x.orders i).pick.place<0))
def Rb (l:List Vis) (i k:Nat):Bool:=(l.take k).any fun v=>decide (v.order=(i:Int))
theorem nK {x:Inst} {l:List Vis} {n i k:Nat} (h:k<l.length):zK x l n i (k+1)=if (nth l k).order=(i:Int) then (if k<n then !(nth l k).drp else zK x l n i k) else zK x l n i k:=by
 grind [zK,XZ,Zh]
theorem bT {l:List Vis} {i k:Nat} (h:k<l.length):Rb l i (k+1)=if (nth l k).order=(i:Int) then true else Rb l i k:=by
 grind [Rb,XZ,Zh]
theorem vE {x:Inst} {l:List Vis} {n i:Nat} (h:n<=l.length):zK x l n i l.length=Fo x l n i:=by
 grind [zK,Fo]
theorem lR {l:List Vis} {i:Nat} :Rb l i l.length=hasO l i:=by grind [Rb,hasO]
theorem T6 (x:Inst) (l:List Vis) (c:Bool) (n:Nat) (hx:LdOk x) (hl:l.length<=1048576) (hn:n<=l.length) :
  PT 180 [.p (Zv x),.p (.list c (l.map Z7)),.p (.int .i64 (n:Nat))] [.p (.list false ((Wm x l n).map eI)),.p (.int .i64 0)]:=by
 have ho:=hx.ord;refine Zf [15] Tryz.func180 rfl Zci ?_;simp (disch:=omega) only [Tryz.f180,go_sem,seval];refine ZZ [15] [1,2,3] (fun q:Nat×List (Bool×List Int)=> [(8,.sl 1 0 q.2.length q.2.length),(9,.p (.int .i64 q.1))]) (fun q=> [Zi x,.elems 1 (q.2.map eR)]) (fun q=>q.1<=x.orders.length/\q.2=Hp x l n q.1) (fun q=>x.orders.length-q.1) (0,[]) (by simp [Hp]) (Weak.ofNil 8 1 rfl Zb (Weak.mk ?_)) ?_
 ·simp (disch:=omega) only [Zi,Zn,ZG,ZO,ZD,go_sem,seval]
 ·rintro ⟨i,o⟩ ⟨hi,hob⟩;simp only at hi hob
  have hol:o.length<=i:=by grind [iQ]
  refine Yl ?_;refine cD ?_ ?_<;>intro h1<;>simp (disch:=omega) only [Sh.out h1,go_sem,seval,↓reduceIte]
  ·have hi2:i<x.orders.length:=Za
   refine Zk [1,2,3,8,9] (fun k:Nat=> [(10,.p (.bool (zK x l n i k))),(11,.p (.bool (Rb l i k))),(12,.p (.int .i64 k))]) (fun _=> [Zi x,.elems 1 (o.map eR)]) (fun k=>k<=l.length) (fun k=>l.length-k) 0 Zb (Weak.mk ?_) ?_
   ·simp (disch:=omega) only [Zi,zK,Rb,Nat.zero_min,Vq,VR,List.any_nil,go_sem,seval]
   ·intro k hk;refine Yl ?_;refine cD ?_ ?_<;>intro h2<;>simp (disch:=omega) only [Sh.out h2,go_sem,seval,↓reduceIte]
    ·have hk2:k<l.length:=Za
     have s1:=nK (x:=x) (n:=n) (i:=i) hk2;have s2:=bT (i:=i) hk2;refine ZK ?_ ?_<;>intro h3
     ·rw [if_neg h3] at s1 s2;exact ⟨k+1,Za,Za,Weak.mk (by simp (disch:=omega) only [s1,s2,go_sem,seval])⟩
     ·have h3':=Z3.1 h3;rw [if_pos h3'] at s1 s2;refine ZK ?_ ?_<;>intro h4
      ·rw [if_pos Za] at s1;exact ⟨k+1,Za,Za,Weak.mk (by simp (disch:=omega) only [s1,s2,go_sem,seval])⟩
      ·rw [if_neg Za] at s1;exact ⟨k+1,Za,Za,Weak.mk (by simp (disch:=omega) only [s1,s2,go_sem,seval])⟩
    ·have hkl:k=l.length:=Za
     subst hkl;have s3:=aS (x:=x) (l:=l) (n:=n) (k:=i);rw [vE hn,lR];refine Ql ?_ ?_<;>intro h5
     ·refine ZK ?_ ?_<;>intro h6
      ·rw [h5,h6,Bool.and_self,if_pos rfl] at s3;exact ⟨(i+1,o++ [((nth x.orders i).load_c,(nth x.orders i).load)]),⟨Za,by grind⟩,Za,Weak.mk (by simp (disch:=omega) only [ZJ,ZC,ZG,XD,Zr,Zn,go_sem,seval])⟩
      ·rw [h5,h6,Bool.and_false,if_neg Zb,Wy] at s3;exact ⟨(i+1,o),⟨Za,by grind⟩,Za,wk⟩
     ·have h5':Fo x l n i=false:=Za
      rw [h5',QU,if_neg Zb,Wy] at s3;exact ⟨(i+1,o),⟨Za,by grind⟩,Za,wk⟩
  ·have hik:i=x.orders.length:=Za
   subst hik
   have hD:dimsOf x.types=((dimsOf x.types).toNat:Int):=by have:=hx.dim;omega
   have hok:=sP (l:=l) (n:=n) hx (Zw _);rw [<- hob] at hok;have hs:=iR (x:=x) (l:=l) (n:=n);rw [<- hob] at hs;refine Zq (Weak.fz (o:=1) (by rfl)) (Zg [] _ _ _ _ (UX ?_));refine (jV x hx.typ).use (Zc ?_);rw [hD];refine Yn (xC o false (dimsOf x.types).toNat (by have:=hx.dim;omega) Za hok) (Zc ?_);rw [<- hs];exact we
def qZ (l:List Int):PV:= .list false (l.map eI)
@[go_sem] theorem Zbd (l:List Int):qZ l= .list false (l.map eI):=Zl rfl rfl
def QZ (x:Inst) (l:List Vis):List (List Int):=(List.range (l.length+1)).map (Wm x l)
theorem cI (x:Inst) (r:Rte) (hx:InstOk x) (hl:r.visits.length<=1048576) (h0:Xk x r.visits=0) (hchk:PC 88 [.p (Zv x),.p (Wd r)] (.int .i64 (Xk x r.visits))) :
  PT 138 [.p (Zv x),.p (Wd r)] [.p (.list false ((QZ x r.visits).map qZ)),.p (.int .i64 0)]:=by
 have hd:=QP hx;refine Zf [12] Tryz.func138 rfl ZbS ?_;simp (disch:=omega) only [Tryz.f138,go_sem,seval];refine (hchk).use (Zc ?_);simp (disch:=omega) only [h0,go_sem,seval];refine ZZ [12] [2,3] (fun q:Nat×List (List Int)=> [(7,.sl 2 0 q.2.length q.2.length),(8,.p (.int .i64 q.1))]) (fun q=> [Zi x,XA r,.elems 1 (q.2.map qZ)]) (fun q=>q.1<=r.visits.length+1/\q.2=(List.range q.1).map (Wm x r.visits)) (fun q=>r.visits.length+1-q.1) (0,[]) Zb (Weak.ofNil 7 1 rfl Zb (Weak.mk ?_)) ?_
 ·simp (disch:=omega) only [Zi,XA,Zn,ZG,ZO,ZD,go_sem,seval]
 ·rintro ⟨k,o⟩ ⟨hk,ho⟩;simp only at hk ho
  have hol:o.length=k:=by rw [ho];simp
  refine Am ?_;refine cD ?_ ?_<;>intro h1<;>simp (disch:=omega) only [Sh.out h1,go_sem,seval,↓reduceIte]
  ·refine Yn (T6 x r.visits r.visits_c k hd hl Za) (Zc ?_);exact ⟨(k+1,o++ [Wm x r.visits k]),⟨Za,by grind [X6]⟩,Za,Weak.mk (by simp (disch:=omega) only [ZJ,ZC,ZG,XD,Zr,Zn,go_sem,seval])⟩
  ·have hkl:k=r.visits.length+1:=Za
   subst hkl;refine Zq (Weak.fz (o:=2) (by rfl)) (Zg [] _ _ _ _ (UX ?_));rw [QZ,<- ho];exact we
theorem kM (x:Inst) (r:Rte) (hx:InstOk x) (hl:r.visits.length<=1048576) (hty:0<=r.typ/\r.typ<(x.types.length:Int)) (h0:Xk x r.visits=0) (hchk:PC 88 [.p (Zv x),.p (Wd r)] (.int .i64 (Xk x r.visits))) :
  PC 90 [.p (Zv x),.p (Wd r)] (.int .i64 (if Qv x (ZF x r).cap r.visits=true then 0 else 17)):=by
 have hd:=QP hx;have htl:=hd.typ
 have hti:r.typ.toNat<x.types.length:=Za
 have hcp:(nth x.types r.typ.toNat).cap.length<=3:=by
  have hcap:=hx.types.2 _ hti;unfold UD at hcap;obtain ⟨⟨⟨⟨⟨⟨⟨⟨_,_⟩,_⟩,_⟩,hcap⟩,_⟩,_⟩,_⟩,_⟩:=hcap;simp only [VH,ZE,Zs,rng] at hcap;omega
 have hll:(QZ x r.visits).length=r.visits.length+1:=by simp [QZ]
 have hln: ∀k,k<r.visits.length+1->nth (QZ x r.visits) k=Wm x r.visits k:=fun k hk=>by
  grind [Zh,QZ]
 have hal: ∀k,(Wm x r.visits k).length<=3:=fun k=>by rw [FH];have:=hd.dim;omega
 have cl:=cI x r hx hl h0 hchk;unfold ZF
 generalize hL:QZ x r.visits=L at *
 refine Ze Tryz.func90 rfl Zki ?_
 have e1: ¬r.typ<0:=Za
 have e2: ¬(x.types.length:Int)<=r.typ:=Za
 simp (disch:=omega) only [Tryz.f90,e1,e2,go_sem,seval];refine Yn cl (Zc ?_);refine Zk [2,3,5] (fun k:Nat=> [(7,.p (.int .i64 k))]) (fun _=> [Zi x,XA r]) (fun k=>k<=r.visits.length+1/\ ∀j,j<k->V4 (Wm x r.visits j) (nth x.types r.typ.toNat).cap=true) (fun k=>r.visits.length+1-k) 0 Zb (Weak.mk ?_) ?_
 ·simp (disch:=omega) only [Zi,XA,go_sem,seval]
 ·rintro k ⟨hk,hno⟩;simp (disch:=omega) only [Zi,XA,hll,go_sem,seval];refine cD ?_ ?_<;>intro h1<;>simp (disch:=omega) only [Sh.out h1,go_sem,seval,↓reduceIte]
  ·have hk2:k<r.visits.length+1:=Za
   have hk3:k<L.length:=Za
   have hk4:=hal k;refine Xq ?_;simp (disch:=omega) only [hln k hk2,go_sem,seval];refine Zo (kL (Wm x r.visits k) (nth x.types r.typ.toNat).cap false (nth x.types r.typ.toNat).cap_c Za Za) (Zc ?_);refine ZK ?_ ?_<;>intro h2
   ·have h2':V4 (Wm x r.visits k) (nth x.types r.typ.toNat).cap=false:=by grind
    have: ¬Qv x (nth x.types r.typ.toNat).cap r.visits=true:=fun h=>by
     grind [Qv]
    grind
   ·exact ⟨k+1,⟨Za,Zp.2 ⟨hno,by grind⟩⟩,Za,wk⟩
  ·have:Qv x (nth x.types r.typ.toNat).cap r.visits=true:=by
    grind [Qv]
   grind
def Ng (j:Nat):Int:=if j=63 then-9223372036854775808 else ((pw j:Nat):Int)
theorem Sn {j:Nat} (h:j<63):Ng j=((pw j:Nat):Int):=by rw [Ng,if_neg Za]
theorem Zee {j:Nat} (h:j<=62):pw j<=4611686018427387904:=by have:=KD h;rwa [GJ] at this
theorem Nh {j:Nat} (h:j<=63):0<Ng j↔j<63:=by
 grind [Ng,GK]
theorem zZ {S q:Nat} (hS:S<9223372036854775808) (h:q<=S):IntKind.i64.wrap (q:Int)=(q:Int):=by rw [IntKind.wrap_i64];omega
theorem Zeg {P:Program} {t:TypeId} {S j:Nat} (hS:S<9223372036854775808):Ys P .quo t (.p (.int .i64 (S:Int))) (.p (.int .i64 ((pw j:Nat):Int)))=some (.int .i64 ((S / pw j:Nat):Int)):=by
 have hp:=GK j;rw [gD Za]
 have e:(S:Int).tdiv ((pw j:Nat):Int)=((S / pw j:Nat):Int):=by
  rfl
 have hle:=Nat.div_le_self S (pw j);rw [e,zZ hS hle]
theorem wI {P:Program} {t:TypeId} {S:Nat} :Ys P .rem t (.p (.int .i64 (S:Int))) (.p (.int .i64 2))=some (.int .i64 ((S%2:Nat):Int)):=by
 rfl
theorem ZkV {S j:Nat} (hS:S<9223372036854775808):(IntKind.i64.wrap ((S:Int) / ((pw j:Nat):Int))).tmod 2=((S / pw j%2:Nat):Int):=by
 have hle:=Nat.div_le_self S (pw j)
 grind [zZ]
theorem mY {P:Program} {t:TypeId} {j:Nat} (h:j<63):Ys P .mul t (.p (.int .i64 ((pw j:Nat):Int))) (.p (.int .i64 2))=some (.int .i64 (Ng (j+1))):=by
 grind [gB,Ng,Zee,pw,IntKind.wrap_i64]
theorem gI (t:Typ) (s:Int) (h1:t.skills<9223372036854775808) (h2:s<9223372036854775808):PC 89 [.p (X8 t),.p (.int .i64 s)] (.bool (Yq t s)):=by
 refine Ze Tryz.func89 rfl Zkh ?_;simp (disch:=omega) only [Tryz.f89,go_sem,seval];refine gF ?_ ?_<;>intro c1<;>simp (disch:=omega) only [Sh.out c1,go_sem,seval,↓reduceIte]
 ·grind [Yq]
 ·refine cD ?_ ?_<;>intro c2<;>simp (disch:=omega) only [Sh.out c2,go_sem,seval]
  ·grind [Yq]
  ·obtain ⟨M,hM⟩: ∃M:Nat,t.skills=(M:Int):=⟨t.skills.toNat,Za⟩;obtain ⟨S,rfl⟩: ∃S:Nat,s=(S:Int):=⟨s.toNat,Za⟩
   have hMl:M<9223372036854775808:=Za
   have hSl:S<9223372036854775808:=Za
   have hab: ∀b:Bool,((List.range 63).all fun i=> !S.testBit i||M.testBit i)=b->Yq t (S:Int)=b:=fun b hb=>by
    simp_all [Yq]
   refine Zk [1,2] (fun j:Nat=> [(5,.p (.int .i64 (Ng j)))]) (fun _=> [Ym t]) (fun j=>j<=63/\ ∀i,i<j->(!S.testBit i||M.testBit i)=true) (fun j=>63-j) 0 Zb (Weak.mk ?_) ?_
   ·simp (disch:=omega) only [Ym,hM,show Ng 0=1 from rfl,go_sem,seval]
   ·rintro j ⟨hj,hno⟩;simp (disch:=omega) only [Ym,hM,go_sem,seval];refine cD ?_ ?_<;>intro c3<;>simp (disch:=omega) only [Sh.out c3,go_sem,seval,↓reduceIte]
    ·have hj2:j<63:=(Nh hj).1 c3;simp (disch:=omega) only [Sn hj2,ZkV hSl,Lu,go_sem,seval];refine gT ?_ ?_<;>intro c4<;>simp (disch:=omega) only [Sh.out c4,Sn hj2,Zeg hMl,ZkV hSl,wI,mY hj2,Lu,Lt,go_sem,seval]
     ·refine cD ?_ ?_<;>intro c5<;>simp (disch:=omega) only [Sh.out c5,mY hj2,go_sem,seval]
      ·grind
      ·exact ⟨j+1,⟨Za,Zp.2 ⟨hno,by grind⟩⟩,Za,Weak.mk (by simp (disch:=omega) only [hM,go_sem,seval])⟩
     ·exact ⟨j+1,⟨Za,Zp.2 ⟨hno,by grind⟩⟩,Za,Weak.mk (by simp (disch:=omega) only [hM,go_sem,seval])⟩
    ·have hj63:j=63:=by
      rcases WM j 63 with h | h
      ·simp_all [Nh]
      ·omega
     simp_all
theorem PE (l:List Vis) (c:Bool) (n:Nat) (hn:n<l.length) (hl:l.length<=1048576):PC 143 [.p (.list c (l.map Z7)),.p (.int .i64 (n:Nat))] (.bool (UJ l n)):=by
 refine Ze Tryz.func143 rfl ZbX ?_;simp (disch:=omega) only [Tryz.f143,go_sem,seval];refine Zk [0,1] (fun k:Nat=> [(5,.p (.int .i64 k))]) (fun _=> []) (fun k=>k<=n/\ ∀j,j<k->(nth l j).order≠(nth l n).order) (fun k=>n-k) 0 Zb (Weak.mk ?_) ?_
 ·simp (disch:=omega) only [go_sem,seval,↓reduceIte]
 ·rintro k ⟨hk,hno⟩;refine Zc ?_;refine cD ?_ ?_<;>intro h1<;>simp (disch:=omega) only [Sh.out h1,go_sem,seval,↓reduceIte]
  ·have hk2:k<n:=Za
   have hk3:k<l.length:=Za
   refine Xq (Zc ?_);refine cD ?_ ?_<;>intro h2<;>simp (disch:=omega) only [Sh.out h2,go_sem,seval,↓reduceIte]
   ·grind [UJ,K6]
   ·exact ⟨k+1,⟨Za,Zp.2 ⟨hno,h2⟩⟩,Za,wk⟩
  ·have hkn:k=n:=Za
   subst hkn
   have:UJ l k=true:=by
    unfold UJ;rw [XM,YQ];intro v hv;obtain ⟨j,j1,j2,rfl⟩:=QG hv
    grind
   rw [this]
def Qa (c m o w:Int):AM.Obj:= .cells [.p (.int .i64 c),.p (.int .i64 m),.p (.int .i64 o),.p (.int .i64 w)]
theorem Ct {x:Inst} {l:List Vis} {t:Int} : ∀n:Nat,(0<=(chgF x l t n).1/\(chgF x l t n).1<=n)/\(0<=(chgF x l t n).2/\(chgF x l t n).2<=n)
 | 0=>by simp [chgF]
 | n+1=>by
  have ih:=Ct (x:=x) (l:=l) (t:=t) n
  grind [chgF]
theorem dY (x:Inst) (r:Rte) (s:She) (hty:0<=r.typ/\r.typ<(x.types.length:Int)) (ho:x.orders.length<=1048576) (ht:x.types.length<=1048576) (hl:r.visits.length<=1048576) (hv:Inr x r.visits)
  (hc:0<=(ZF x r).fixed/\(ZF x r).fixed<=100000/\0<=(ZF x r).perMile/\(ZF x r).perMile<=100/\0<=(ZF x r).perTick/\(ZF x r).perTick<=100) (ho2:0<=(ZF x r).opn/\(ZF x r).opn<=4096)
  (hf: -4096<=s.fin/\s.fin<=8192) (hm:0<=s.miles/\s.miles<=1000000) :
  PC 92 [.p (Zv x),.p (Wd r),.p (F2 s)] (Bl (Eb x r s)):=by
 have hti:r.typ.toNat<x.types.length:=Za
 unfold Eb;have htd:nth x.types r.typ.toNat=ZF x r:=rfl
 generalize ZF x r=t at *
 have e1: ¬r.typ<0:=Za
 have e2: ¬(x.types.length:Int)<=r.typ:=Za
 have p1:0<=t.perMile*s.miles/\t.perMile*s.miles<=100*1000000:=⟨UO Za Za,VQ Za Za Za Za⟩
 have hW: -8192<=s.fin-t.opn/\s.fin-t.opn<=8192:=Za
 have p2: -819200<=t.perTick*(s.fin-t.opn)/\t.perTick*(s.fin-t.opn)<=819200:=by
  generalize s.fin-t.opn=w at hW;have a1:=BP hW.2 (show 0<=t.perTick by omega);have a2:=BP hW.1 (show 0<=t.perTick by omega);omega
 have p3: -128<=(s.fin-t.opn).tdiv 64/\(s.fin-t.opn).tdiv 64<=128:=by
  grind
 have p4:0<=(s.fin-t.opn).tdiv 64*(s.fin-t.opn).tdiv 64/\(s.fin-t.opn).tdiv 64*(s.fin-t.opn).tdiv 64<=16384:=by
  generalize (s.fin-t.opn).tdiv 64=q at p3;refine ⟨?_,?_⟩
  ·rcases AV 0 q with h | h
   ·exact UO h h
   ·exact Int.mul_nonneg_of_nonpos_of_nonpos h h
  ·rcases AV 0 q with h | h
   ·have:=VQ p3.2 p3.2 h Za;omega
   ·have h2:0<= -q:=Za
    have:=VQ (show-q<=128 by omega) (show-q<=128 by omega) h2 Za
    grind
 refine Ze Tryz.func92 rfl Zkj ?_;simp (disch:=omega) only [Tryz.f92,e1,e2,htd,go_sem,seval];refine Zk [3,4,6,9] (fun k:Nat=> [(10,.p (.int .i64 k))]) (fun k=> [Zi x,XA r,.cells [.p (.bool s.rest),.p (.int .i64 s.dep),.p (.list s.times_c (s.times.map eTim)),.p (.int .i64 s.fin),.p (.int .i64 s.miles)],Qa 0 0 0 0,Ym t,Qa (t.fixed+t.perMile*s.miles+t.perTick*(s.fin-t.opn)) (chgF x r.visits r.typ k).1 (chgF x r.visits r.typ k).2 ((s.fin-t.opn).tdiv 64*(s.fin-t.opn).tdiv 64)]) (fun k=>k<=r.visits.length) (fun k=>r.visits.length-k) 0 Zb (Weak.mk ?_) ?_
 ·simp (disch:=omega) only [Zi,XA,Ym,Qa,chgF,go_sem,seval]
 ·intro k hk;have hch:=Ct (x:=x) (l:=r.visits) (t:=r.typ) k;simp (disch:=omega) only [Zi,XA,Ym,Qa,go_sem,seval];refine cD ?_ ?_<;>intro h1<;>simp (disch:=omega) only [Sh.out h1,go_sem,seval,↓reduceIte]
  ·have hk2:k<r.visits.length:=Za
   obtain ⟨v1,v2⟩:=hv _ (Zt hk2)
   have e3: ¬(nth r.visits k).order<0:=Za
   have e4: ¬(x.orders.length:Int)<=(nth r.visits k).order:=Za
   have v3:(nth r.visits k).order.toNat<x.orders.length:=Za
   simp (disch:=omega) only [e3,e4,go_sem,seval];refine (PE r.visits r.visits_c k hk2 hl).use (Zc ?_);have hcs:chgF x r.visits r.typ (k+1)=_:=chgF.eq_2 x r.visits r.typ k;refine ZK ?_ ?_<;>intro h2
   ·have h2': ¬UJ r.visits k=true:=by grind
    exact ⟨k+1,Za,Za,Weak.mk (by simp (disch:=omega) only [hcs,if_neg h2',go_sem,seval])⟩
   ·have h2':UJ r.visits k=true:=by grind
    refine Xq (Zc ?_);refine gT ?_ ?_<;>intro h3<;>simp (disch:=omega) only [Sh.out h3,go_sem,seval,↓reduceIte]
    ·refine cD ?_ ?_<;>intro h4<;>simp (disch:=omega) only [Sh.out h4,go_sem,seval,↓reduceIte]
     ·have hn:Xy (nth x.orders (nth r.visits k).order.toNat).now r.typ=true:=by simp [Xy,h3,h4]
      refine Xq (Zc ?_);refine Ql ?_ ?_<;>intro h5
      ·refine ZK ?_ ?_<;>intro h6
       ·have hl2:Xy (nth x.orders (nth r.visits k).order.toNat).last r.typ=true:=by simp [Xy,h5,h6]
        exact ⟨k+1,Za,Za,Weak.mk (by simp (disch:=omega) only [hcs,if_pos h2',hn,hl2,go_sem,seval,↓reduceIte])⟩
       ·have hl2:Xy (nth x.orders (nth r.visits k).order.toNat).last r.typ=false:=by simp_all [Xy]
        exact ⟨k+1,Za,Za,Weak.mk (by simp (disch:=omega) only [hcs,if_pos h2',hn,hl2,UP,Y1,go_sem,seval,↓reduceIte])⟩
      ·have hl2:Xy (nth x.orders (nth r.visits k).order.toNat).last r.typ=false:=by simp_all [Xy]
       exact ⟨k+1,Za,Za,Weak.mk (by simp (disch:=omega) only [hcs,if_pos h2',hn,hl2,UP,Y1,go_sem,seval,↓reduceIte])⟩
     ·have hn:Xy (nth x.orders (nth r.visits k).order.toNat).now r.typ=false:=by simp_all [Xy]
      refine Xq (Zc ?_);refine Ql ?_ ?_<;>intro h5
      ·refine ZK ?_ ?_<;>intro h6
       ·have hl2:Xy (nth x.orders (nth r.visits k).order.toNat).last r.typ=true:=by simp [Xy,h5,h6]
        exact ⟨k+1,Za,Za,Weak.mk (by simp (disch:=omega) only [hcs,if_pos h2',hn,hl2,UP,Y1,go_sem,seval,↓reduceIte])⟩
       ·have hl2:Xy (nth x.orders (nth r.visits k).order.toNat).last r.typ=false:=by grind
        exact ⟨k+1,Za,Za,Weak.mk (by simp (disch:=omega) only [hcs,if_pos h2',hn,hl2,UP,Y1,go_sem,seval,↓reduceIte])⟩
      ·have hl2:Xy (nth x.orders (nth r.visits k).order.toNat).last r.typ=false:=by simp_all [Xy]
       exact ⟨k+1,Za,Za,Weak.mk (by simp (disch:=omega) only [hcs,if_pos h2',hn,hl2,UP,Y1,go_sem,seval,↓reduceIte])⟩
    ·have hn:Xy (nth x.orders (nth r.visits k).order.toNat).now r.typ=false:=by simp_all [Xy]
     refine Xq (Zc ?_);refine Ql ?_ ?_<;>intro h5
     ·refine ZK ?_ ?_<;>intro h6
      ·have hl2:Xy (nth x.orders (nth r.visits k).order.toNat).last r.typ=true:=by simp [Xy,h5,h6]
       exact ⟨k+1,Za,Za,Weak.mk (by simp (disch:=omega) only [hcs,if_pos h2',hn,hl2,UP,Y1,go_sem,seval,↓reduceIte])⟩
      ·have hl2:Xy (nth x.orders (nth r.visits k).order.toNat).last r.typ=false:=by simp_all [Xy]
       exact ⟨k+1,Za,Za,Weak.mk (by simp (disch:=omega) only [hcs,if_pos h2',hn,hl2,UP,Y1,go_sem,seval,↓reduceIte])⟩
     ·have hl2:Xy (nth x.orders (nth r.visits k).order.toNat).last r.typ=false:=by grind
      exact ⟨k+1,Za,Za,Weak.mk (by simp (disch:=omega) only [hcs,if_pos h2',hn,hl2,UP,Y1,go_sem,seval,↓reduceIte])⟩
  grind
theorem SqOk.len {x:Inst} {l:List Vis} (h:SqOk x l) (hn:x.orders.length<=10):l.length<=20:=by
 have h1:=List.Nodup.length_le_of_subset (l₁ :=l) (l₂ :=(List.range 10).flatMap fun i:Nat=> [(⟨(i:Int),false⟩:Vis),⟨(i:Int),true⟩]) h.nd (fun v hv=>by
  obtain ⟨v1,v2⟩:=h.inr v hv;rw [XS];refine ⟨v.order.toNat,Zz.2 Za,?_⟩;obtain ⟨o,d⟩:=v
  have e:((o.toNat:Nat):Int)=o:=by grind
  simp_all)
 have h2:((List.range 10).flatMap fun i:Nat=> [(⟨(i:Int),false⟩:Vis),⟨(i:Int),true⟩]).length=20:=rfl;omega
theorem SqOk.vis {x:Inst} {l:List Vis} (h:SqOk x l) {v:Vis} (hv:v∈l):As x v=true:=by
 obtain ⟨v1,v2⟩:=h.inr v hv;obtain ⟨i,hi⟩: ∃i:Nat,v.order=(i:Int):=⟨v.order.toNat,Za⟩;have ho:=h.own (i:=i) ⟨v,hv,hi⟩
 have hpl:0<=(Xp x v).place:=by
  unfold Xp;rw [hi,XY]
  cases hd:v.drp with
  | true=>exact ho.isD (by rw [<- hi,<- hd];exact hv)
  | false=>exact ho.isP (by rw [<- hi,<- hd];exact hv)
 simp [As,NR,v1,v2,hpl]
theorem vW {x:Inst} {r:Rte} (h:SqOk x r.visits) (hn:x.orders.length<=10) (ht:0<=r.typ/\r.typ<(x.types.length:Int)):UB x r=(decide (0<=r.start)&&decide (r.start<=4096)):=by
 have h1:r.visits.all (As x)=true:=Zx.2 fun v hv=>h.vis hv;have h2:=h.len hn
 grind [UB]
theorem Tl {n:Net} (h:netOk n):netR n/\ ∀a∈n.arcs,0<=a.miles/\a.miles<=10000:=by
 obtain ⟨⟨⟨h1,_⟩,h2⟩,h3⟩:=h
 have ha: ∀a∈n.arcs,rP a/\0<=a.miles/\a.miles<=10000:=fun a hm=>by
  obtain ⟨i,hi,rfl⟩:=ZN.1 hm;have:=h3 i hi;unfold M5 at this;rw [Zh hi] at this;obtain ⟨⟨⟨⟨⟨_,g1⟩,_⟩,g2⟩,g3⟩,g4⟩:=this;refine ⟨⟨g2,g3,fun p hp=> ?_⟩,g1.2.2.1,g1.2.2.2.1⟩;obtain ⟨j,hj,rfl⟩:=ZN.1 hp
  simp_all [Ak,Zh,MH,rng]
 exact ⟨⟨Za,Za,fun a hm=>(ha a hm).1⟩,fun a hm=>(ha a hm).2⟩
theorem WU {x:Inst} (hx:InstOk x) {i:Nat} (hi:i<x.types.length):(0<=(nth x.types i).opn/\(nth x.types i).opn<=(nth x.types i).cls/\(nth x.types i).cls<=4096)/\(1<=(nth x.types i).drive/\(nth x.types i).drive<=4096)/\(0<=(nth x.types i).rest/\(nth x.types i).rest<=4096) /\
  (0<=(nth x.types i).fixed/\(nth x.types i).fixed<=100000/\0<=(nth x.types i).perMile/\(nth x.types i).perMile<=100/\0<=(nth x.types i).perTick/\(nth x.types i).perTick<=100)/\(0<=(nth x.types i).skills/\(nth x.types i).skills<=1073741823):=by
 have ht:=hx.types.2 i hi
 simp_all [UD,rng]
theorem Aq {x:Inst} {r:Rte} (hx:InstOk x) (ht:0<=r.typ/\r.typ<(x.types.length:Int)) (h:SqOk x r.visits):TrpOk x (ZF x r) (ZP x r.visits):=by
 have hti:r.typ.toNat<x.types.length:=Za
 obtain ⟨t1,t2,t3,_⟩:=WU hx hti;obtain ⟨n1,n2⟩:=Tl hx.net;refine ⟨n1,n2,t1,t2,t3,fun s hs=> ?_,by rw [Yi];exact h.len hx.orders.1⟩;obtain ⟨v,hv,rfl⟩:=Xn.1 hs;obtain ⟨v1,v2⟩:=h.inr v hv
 have hi:v.order.toNat<x.orders.length:=Za
 have ho:=hx.orders.2 _ hi;have hvis:=h.vis hv;have hp:=ho.pstp;have hd:=ho.dstp;simp only [stpOk,Zs] at hp hd;simp only [As,ZE,Zs] at hvis;have h3:=hvis.2;unfold Xp at h3 ⊢
 grind
theorem OE {x t sp} (h:TrpOk x t sp): ∀(bs:List Bool) (k:Nat) (L:Lab),k+bs.length=sp.length+1->LabR k L->(Xd x t sp k L bs).2=0->LabR (sp.length+1) (Xd x t sp k L bs).1/\(bs≠ []->(Xd x t sp k L bs).1.she.fin=(Xd x t sp k L bs).1.ready)
 | [],k,L,hk,hl,h0=>by
  simp at hk;subst hk;exact ⟨hl,fun h=>absurd rfl h⟩
 | b::bs,k,L,hk,hl,h0=>by
  simp at hk;rw [Xd] at h0 ⊢
  split at h0
  ·rename_i c;rw [if_pos c];obtain ⟨h1,h2⟩:=OE h bs (k+1) _ Za (Me h Za hl c) h0;refine ⟨h1,fun _=> ?_⟩
   cases bs with
   | nil =>
    simp at hk;subst hk;exact Oe (x:=x) (t:=t) (sp:=sp) (y:=L) (b:=b) (by rw [XE,if_pos c];rfl)
   | cons b2 bs=>grind
  omega
theorem FX {x t sp} {st:Int} {r:List Bool} (h:TrpOk x t sp) (hs:0<=st/\st<=4096) (hr:r.length<=sp.length+1) (h0:(Yw x t sp st r).2=0):(0<=(Yw x t sp st r).1.fin/\(Yw x t sp st r).1.fin<=8192)/\(0<=(Yw x t sp st r).1.miles/\(Yw x t sp st r).1.miles<=210000):=by
 have hL0:LabR 0 (labF t st):=⟨by have:=h.opn;grind [labF],by simp [labF],by simp [labF,zShe]⟩;have hl:=h.len
 have key: ∀bs∈XH r (sp.length+1),(Xd x t sp 0 (labF t st) bs).2=0->(0<=(Xd x t sp 0 (labF t st) bs).1.she.fin/\(Xd x t sp 0 (labF t st) bs).1.she.fin<=8192)/\(0<=(Xd x t sp 0 (labF t st) bs).1.she.miles/\(Xd x t sp 0 (labF t st) bs).1.she.miles<=210000):=fun bs hbs he=>by
  obtain ⟨q,hq,rfl⟩:=Xn.1 hbs;have hql:=bestF_len.fromB_len _ _ hq;simp at hql
  have hne:r++q≠ []:=fun e=>by
   simp_all
  obtain ⟨g1,g2⟩:=OE h (r++q) 0 _ (by simp;omega) hL0 he;rw [g2 hne];have:=g1.rdy;have:=g1.mil;omega
 unfold Yw at h0 ⊢
 cases hf:Vb Wn none ((XH r (sp.length+1)).filterMap (Wi (XE x t sp) 0 (labF t st))) with
 | some L =>
  simp only;have:=bestF_len.fmL_mem _ _ hf
  grind [YD]
 | none =>
  grind [zShe]
theorem aN (x:Inst) (r:Rte) (ho:x.orders.length<=1048576) (ht:x.types.length<=1048576) (hl:r.visits.length<=1048576) (hbad:UB x r=false\/r.visits.length+1<r.rests.length) :
  PT 91 [.p (Zv x),.p (Wd r)] [.p (F2 zShe),.p (.int .i64 2)]:=by
 refine Zf [] Tryz.func91 rfl zA ?_;simp (disch:=omega) only [Tryz.f91,go_sem,seval];refine (GG x r ho ht hl).use (Zc ?_);refine gF ?_ ?_<;>intro h1<;>simp (disch:=omega) only [Sh.out h1,go_sem,seval,↓reduceIte]
 ·exact we (by simp (disch:=omega) only [zShe,Zn,go_sem,seval])
 ·have h2:r.visits.length+1<r.rests.length:=hbad.resolve_left (by grind);refine cD ?_ ?_<;>intro h3<;>simp (disch:=omega) only [Sh.out h3,go_sem,seval,↓reduceIte]
  ·exact we (by simp (disch:=omega) only [zShe,Zn,go_sem,seval])
  ·omega
theorem sU (x:Inst) (r:Rte) (hx:InstOk x) (hl:r.visits.length<=1048576):PC 88 [.p (Zv x),.p (Wd r)] (.int .i64 (Xk x r.visits)):=by
 have hf:=Xz hx;have hr:=hx.rules;obtain ⟨h1,h2⟩:=Ue.1 hr
 have ha:x.apart.length<=1048576:=by
  have h3:=(Ue.1 h1).1
  grind [HA]
 have hb:x.before.length<=1048576:=by
  have h3:=(Ue.1 h2).1
  grind [HA]
 have:=RG x r (by have:=hf.len;omega) hl ha hb hf.plc
 grind [wE]
def Bq (x:Inst) (r:Rte):V:= .tup [.p (F2 (Yc x r)),.p (Bl (XF x r)),.p (.int .i64 (Z6 x r))]
theorem YJ {x:Inst} {r:Rte} {e:Int} (h:Z6 x r=e) (h0:e≠0):Bq x r= .tup [.p (F2 zShe),.p (Bl zSco),.p (.int .i64 e)]:=by
 simp_all [Bq,Yc,XF]
theorem J4 (x:Inst) (r:Rte) (hx:InstOk x) (hl:r.visits.length<=1048576) (hrl:r.rests.length<=1048576):ACalls Tryz.prog 54 [.p (Zv x),.p (Wd r)] [] fun y H'=>y=Bq x r/\H'= []:=by
 have hld:=QP hx;have htl:=hld.typ;have hol:=hld.ord;have chk:=sU x r hx hl
 have htb:x.types.length<=6:=by have:=hx.types.1;simp only [rng,Zs] at this;omega
 refine Zf [] Tryz.func54 rfl ZjO ?_;simp (disch:=omega) only [Tryz.f54,go_sem,seval];refine gF ?_ ?_<;>intro h1<;>simp (disch:=omega) only [Sh.out h1,go_sem,seval,↓reduceIte]
 ·have e:X2 x r=2:=by rw [X2,if_pos Za]
  rw [YJ (e:=2) (by rw [Z6,e];rfl) Za];exact we (by simp (disch:=omega) only [zShe,zSco,Zn,go_sem,seval])
 ·refine cD ?_ ?_<;>intro h2<;>simp (disch:=omega) only [Sh.out h2,go_sem,seval,↓reduceIte]
  ·have e:X2 x r=2:=by simp_all [X2]
   rw [YJ (e:=2) (by rw [Z6,e];rfl) Za];exact we (by simp (disch:=omega) only [zShe,zSco,Zn,go_sem,seval])
  ·have hty:0<=r.typ/\r.typ<(x.types.length:Int):=Za
   have hti:r.typ.toNat<x.types.length:=Za
   refine (chk).use (Zc ?_);refine cD ?_ ?_<;>intro h3<;>simp (disch:=omega) only [Sh.out h3,go_sem,seval,↓reduceIte]
   ·have e:X2 x r=Xk x r.visits:=by simp_all [X2]
    rw [YJ (e:=Xk x r.visits) (by simp_all [Z6]) h3];exact we (by simp (disch:=omega) only [zShe,zSco,Zn,go_sem,seval])
   ·have h3':=Z3.1 h3;have hsq:=VY h3'
    have hvn:0<r.visits.length:=by
     have:=hsq.ne
     grind
    have hok:=Aq hx hty hsq;have hnum:=WU hx hti
    have hr0:X2 x r=if (r.visits.any fun v=> !Yq (ZF x r) (nth x.orders v.order.toNat).skills)=true then 18 else if Qv x (ZF x r).cap r.visits=false then 17 else if ¬(0<=r.start/\r.start<=4096/\r.rests.length<=r.visits.length+1) then 2 else 0:=by
     rw [X2,if_neg (fun h=>h hty),if_neg h3]
    have htyp:nth x.types r.typ.toNat=ZF x r:=rfl;rw [htyp] at hnum;have hf17:=kM x r hx hl hty h3' chk;have hposs:=vW hsq hol hty
    have hsk: ∀k,k<r.visits.length->(nth r.visits k).order.toNat<x.orders.length/\0<=(nth x.orders (nth r.visits k).order.toNat).skills/\(nth x.orders (nth r.visits k).order.toNat).skills<=1073741823:=fun k hk=>by
     obtain ⟨v1,v2⟩:=hsq.inr _ (Zt hk)
     have hi:(nth r.visits k).order.toNat<x.orders.length:=Za
     exact ⟨hi,(hx.orders.2 _ hi).skills⟩
    refine Zk [2,3,4,5] (fun k:Nat=> [(8,.p (.int .i64 k))]) (fun _=> [Zi x,XA r,.cells [.p (.bool false),.p (.int .i64 0),.p (.list true []),.p (.int .i64 0),.p (.int .i64 0)],Qa 0 0 0 0])
     (fun k=>k<=r.visits.length/\ ∀j,j<k->Yq (ZF x r) (nth x.orders (nth r.visits j).order.toNat).skills=true) (fun k=>r.visits.length-k) 0 Zb (Weak.mk ?_) ?_
    ·simp (disch:=omega) only [Zi,XA,Qa,go_sem,seval]
    ·rintro k ⟨hk,hno⟩;simp (disch:=omega) only [Zi,XA,Qa,go_sem,seval];refine cD ?_ ?_<;>intro h4<;>simp (disch:=omega) only [Sh.out h4,go_sem,seval,↓reduceIte]
     ·have hk2:k<r.visits.length:=Za
      obtain ⟨s1,s2,s3⟩:=hsk k hk2;obtain ⟨v1,v2⟩:=hsq.inr _ (Zt hk2);refine Xq ?_;simp (disch:=omega) only [htyp,go_sem,seval];refine Zo (gI (ZF x r) (nth x.orders (nth r.visits k).order.toNat).skills Za Za) (Zc ?_);refine ZK ?_ ?_<;>intro h5
      ·have e:X2 x r=18:=by
        rw [hr0,if_pos]
        grind [Zt]
       rw [YJ (e:=18) (by rw [Z6,e];rfl) Za];exact we (by simp (disch:=omega) only [zShe,zSco,Zn,go_sem,seval])
      ·exact ⟨k+1,⟨Za,Zp.2 ⟨hno,by grind⟩⟩,Za,wk⟩
     ·have hkl:k=r.visits.length:=Za
      subst hkl
      have hall: ¬(r.visits.any fun v=> !Yq (ZF x r) (nth x.orders v.order.toNat).skills)=true:=fun h=>by
       obtain ⟨v,hv,hb⟩:=Wx.1 h;obtain ⟨j,hj,rfl⟩:=ZN.1 hv
       grind [Zh]
      rw [if_neg hall] at hr0;refine (hf17).use (Zc ?_)
      cases hlb:Qv x (ZF x r).cap r.visits with
      | false =>
       have e:X2 x r=17:=by grind
       simp only [Y1,YH];refine Zc ?_;rw [YJ (e:=17) (by rw [Z6,e];rfl) Za];exact we (by simp (disch:=omega) only [zShe,zSco,Zn,go_sem,seval])
      | true =>
       rw [hlb,if_neg Zb] at hr0;simp only [if_true];refine Zc ?_
       by_cases h6:0<=r.start/\r.start<=4096/\r.rests.length<=r.visits.length+1
       ·have e:X2 x r=0:=Za
        have hp:UB x r=true:=by grind
        have ee:Z6 x r=(XB x r).2:=by rw [Z6,if_pos e]
        have cb:=iL x r hok Za htl hvn hp h6.2.2;have hbr:=FX hok ⟨h6.1,h6.2.1⟩ (by rw [Yi];exact h6.2.2);have hbr:(XB x r).2=0->_:=hbr
        change (XB x r).2=0->(0<=(XB x r).1.fin/\(XB x r).1.fin<=8192)/\(0<=(XB x r).1.miles/\(XB x r).1.miles<=210000) at hbr
        have es:Yc x r=if (XB x r).2=0 then (XB x r).1 else zShe:=by rw [Yc,ee]
        have ep:XF x r=if (XB x r).2=0 then Eb x r (XB x r).1 else zSco:=by rw [XF,ee]
        unfold Bq;rw [ee,es,ep];clear ee es ep
        generalize XB x r=q at *
        obtain ⟨sh,eb⟩:=q;simp only at cb hbr ⊢;refine Yn cb (Zc ?_);refine cD ?_ ?_<;>intro h7<;>simp (disch:=omega) only [Sh.out h7,go_sem,seval,↓reduceIte]
        ·exact we (by simp (disch:=omega) only [zShe,zSco,Zn,go_sem,seval])
        ·have h7':=Z3.1 h7
         try rw [if_pos h7',if_pos h7']
         subst h7';obtain ⟨g1,g2⟩:=hbr rfl;refine ZB 5 mixed Zd Zd (Zc ?_);refine Zo (dY x r sh hty Za htl hl hsq.inr hnum.2.2.2.1 Za Za Za) (Zc ?_);exact we
       ·have e:X2 x r=2:=Za
        rw [YJ (e:=2) (by rw [Z6,e];rfl) Za];refine Yn (aN x r Za htl hl ?_) ?_
        ·grind
        ·refine Zc ?_;exact we (by simp (disch:=omega) only [zShe,zSco,Zn,go_sem,seval])
theorem I1 (x:Inst) (r:Rte) (hx:InstOk x) (hl:r.visits.length<=1048576) (hrl:r.rests.length<=1048576):PC 86 [.p (Zv x),.p (Wd r)] (.int .i64 (Z6 x r)):=by
 have ce:=J4 x r hx hl hrl;refine Ze Tryz.func86 rfl Zke ?_;simp (disch:=omega) only [Tryz.f86,go_sem,seval];unfold Bq at ce;refine O7 ce ?_;simp (disch:=omega) only [go_sem,seval,↓reduceIte]
theorem Zen {p q:Pt} {t:Int} (h1:p.t<=t) (h2:t<q.t) (hp:p.t<=p.a) (hq:q.t<=q.a):t<=HJ p q t:=by
 unfold HJ
 have hw:0<q.t-p.t:=Za
 have key:(t-p.a)*(q.t-p.t)<=(t-p.t)*(q.a-p.a)+q.t-p.t-1:=by
  have e:(t-p.t)*(q.a-p.a)-(t-p.a)*(q.t-p.t)=(t-p.t)*(q.a-q.t)+(p.a-p.t)*(q.t-t):=by
   grind
  have h3:0<=(t-p.t)*(q.a-q.t):=UO Za Za;have h4:0<=(p.a-p.t)*(q.t-t):=UO Za Za;omega
 have:=Int.le_ediv_of_mul_le hw key;omega
theorem rR {l:List Pt} {t:Int} (hl:Vg l):t<=JY l t:=by
 obtain ⟨⟨hl1,hl2⟩,hpt⟩:=hl;unfold JY
 split
 ·rename_i i hi;have hm:=UL hi;have hs:=QV hi;simp at hm;simp only [Js,ZE,Zs] at hs;obtain ⟨⟨p1,p2,p3,p4⟩,_⟩:=hpt i Za;obtain ⟨⟨q1,q2,q3,q4⟩,q5⟩:=hpt (i+1) Za
  simp_all [Zen]
 ·obtain ⟨⟨p1,p2,p3,p4⟩,_⟩:=hpt 0 Za;obtain ⟨⟨q1,q2,q3,q4⟩,_⟩:=hpt (l.length-1) Za;omega
theorem lM {n:Net} {pr f t τ:Int} (hn:netR n) (h:(W5 n pr f t τ).2.2=0):τ<=(W5 n pr f t τ).1:=by
 unfold W5 at h ⊢
 split at h
 ·simp at h
 ·rename_i c1;rw [if_neg c1]
  split at h
  ·grind
  ·rename_i c2;rw [if_neg c2]
   split at h
   ·rename_i c3;rw [if_pos c3];have hA:=AD c3;have h1:=rR (t:=τ) (hn.2.2 _ hA).1;have h2:=JQ (t:=τ) (fun p hp=>((hn.2.2 _ hA).2.2 p hp).2.2) _ (Zw _)
    grind [Ll]
   ·simp at h
theorem HS {x t sp} {st:Int} {r:List Bool} (hr:r.length<=sp.length+1) (h:(Yw x t sp st r).2=0): ∃bs:List Bool,bs.length=sp.length+1/\(Xd x t sp 0 (labF t st) bs).2=0/\(Yw x t sp st r).1=(Xd x t sp 0 (labF t st) bs).1.she:=by
 unfold Yw at h ⊢
 cases hf:Vb Wn none ((XH r (sp.length+1)).filterMap (Wi (XE x t sp) 0 (labF t st))) with
 | none =>
  rw [hf] at h;simp only at h ⊢;exfalso
  have hm:YT r (sp.length+1)∈XH r (sp.length+1):=by
   grind [XH,YT,fromB_next]
  have h2:Wi (XE x t sp) 0 (labF t st) (YT r (sp.length+1))=some (Xd x t sp 0 (labF t st) (YT r (sp.length+1))).1:=by rw [YD,if_pos h]
  have h3:(Xd x t sp 0 (labF t st) (YT r (sp.length+1))).1∈(XH r (sp.length+1)).filterMap (Wi (XE x t sp) 0 (labF t st)):=K4.2 ⟨_,hm,h2⟩;generalize (XH r (sp.length+1)).filterMap (Wi (XE x t sp) 0 (labF t st))=l at hf h3
  cases l with
  | nil=>simp at h3
  | cons a l =>
   rw [Vb] at hf;obtain ⟨z,e,_⟩:=VJ Wn l a
   grind
 | some L =>
  simp only;have hm:=bestF_len.fmL_mem _ _ hf;obtain ⟨bs,hbs,hrun⟩:=K4.1 hm;rw [YD] at hrun
  split at hrun
  ·rename_i h5;simp at hrun;subst hrun;obtain ⟨q,hq,rfl⟩:=Xn.1 hbs;have hql:=bestF_len.fromB_len _ _ hq
   grind
  ·cases hrun
structure Sr where
 rdy:Int
 drv:Int
 deriving Inhabited,DecidableEq
def UV (l:List Sr) (s:Sr):List Sr:=if s∈l then l else l++ [s]
def VW (t:Typ) (l:List Sr) (d v:Int):List Sr:=UV (UV l ⟨d,v⟩) ⟨d+t.rest,0⟩
def JT (x:Inst) (t:Typ) (from':Int) (stop:Stp) (out:List Sr) (a:Sr):List Sr :=
 if ¬(W5 x.net t.prof from' stop.place a.rdy).2.2=0\/t.drive<a.drv+(W5 x.net t.prof from' stop.place a.rdy).1-a.rdy then out
 else if stop.cls<max (W5 x.net t.prof from' stop.place a.rdy).1 stop.opn then out
 else VW t out (max (W5 x.net t.prof from' stop.place a.rdy).1 stop.opn+stop.serv) (a.drv+(W5 x.net t.prof from' stop.place a.rdy).1-a.rdy)
def Eo (x:Inst) (t:Typ) (from':Int) (st:List Sr) (stop:Stp):List Sr:=st.foldl (JT x t from' stop) []
theorem cE {l:List Sr} {s a:Sr} :a∈UV l s↔a∈l\/a=s:=by
 grind [UV]
theorem Vt {t:Typ} {l:List Sr} {d v:Int} {a:Sr} :a∈VW t l d v↔a∈l\/a=⟨d,v⟩\/a=⟨d+t.rest,0⟩:=by
 simp [VW,cE,or_assoc]
theorem SA {n:Nat} (h:n<10):dec n= [UInt8.ofNat (48+n)]:=by rw [dec,dif_pos h]
theorem tD {n:Nat} (h:10<=n) (h2:n<100):dec n= [UInt8.ofNat (48+n / 10),UInt8.ofNat (48+n%10)]:=by
 rw [dec,dif_neg Za,SA Za];rfl
theorem M7 {s:List UInt8} {k k':IntKind} {a b:Int} (h:0<=a/\a<=b/\b<=(s.length:Int)):Ln (some .string) s (.p (.int k a)) (.p (.int k' b))=some (.p (.str ((s.take b.toNat).drop a.toNat))):=by
 simp_all [Ln]
def digT : List UInt8:=(List.range 36).map fun i=>UInt8.ofNat (if i<10 then 48+i else 87+i)
def smalT : List UInt8:=(List.range 100).flatMap fun i=> [UInt8.ofNat (48+i / 10),UInt8.ofNat (48+i%10)]
theorem tE : ∀n,n<10->(digT.take (n+1)).drop n= [UInt8.ofNat (48+n)]:=by decide
theorem pO : ∀n,n<100->(smalT.take (2*n+2)).drop (2*n)= [UInt8.ofNat (48+n / 10),UInt8.ofNat (48+n%10)]:=by decide+kernel
theorem wU (n:Nat) (hn:n<100):PC 298 [.p (.int .i64 (n:Int))] (.str (dec n)):=by
 refine Ze Tryz.func298 rfl ZdQ ?_;simp (disch:=omega) only [Tryz.f298,go_sem,seval];refine cD ?_ ?_<;>intro h<;>simp (disch:=omega) only [Sh.out h,go_sem,seval]
 ·rw [SA Za,M7 (by simp;omega)]
  have e1:((n:Int)+1).toNat=n+1:=Za
  have e2:((n:Int)).toNat=n:=Za
  rw [e1,e2];refine (ZY (fun z=>BU (some (V.p (PV.str z))) _) (tE n Za)).mpr ?_;simp (disch:=omega) only [go_sem,seval]
 ·rw [tD Za hn,M7 (by simp;omega)]
  have e1:((n:Int)*2+2).toNat=2*n+2:=Za
  have e2:((n:Int)*2).toNat=2*n:=Za
  rw [e1,e2];refine (ZY (fun z=>BU (some (V.p (PV.str z))) _) (pO n Za)).mpr ?_;simp (disch:=omega) only [go_sem,seval]
theorem lA (n:Nat) (hn:n<100):PC 297 [.p (.int .i64 (n:Int)),.p (.int .i64 10)] (.str (dec n)):=by
 refine Ze Tryz.func297 rfl ZdP ?_
 have h0:(0:Int)<=(n:Int):=Za
 have h1:(n:Int)<100:=Za
 simp (disch:=omega) only [Tryz.f297,h0,h1,go_sem,seval];refine (wU n hn).use ?_;simp (disch:=omega) only [go_sem,seval]
theorem uO (n:Nat) (hn:n<100):PC 296 [.p (.int .i64 (n:Int))] (.str (dec n)):=by
 refine Ze Tryz.func296 rfl ZdO ?_;simp (disch:=omega) only [Tryz.f296,go_sem,seval];refine (lA n hn).use ?_;simp (disch:=omega) only [go_sem,seval]
theorem ZdR (n:Nat) (hn:n<100):PC 295 [.p (.int .i64 (n:Int))] (.str (dec n)):=by
 refine Ze Tryz.func295 rfl ZdN ?_;simp (disch:=omega) only [Tryz.f295,go_sem,seval];refine (uO n hn).use ?_;simp (disch:=omega) only [go_sem,seval]
theorem Pb (n a b:Int):PC 282 [.p (.int .i64 n),.p (.int .i64 a),.p (.int .i64 b)] (.bool (decide (a<=n)&&decide (n<=b))):=by
 refine Ze Tryz.func282 rfl ZdA ?_;simp (disch:=omega) only [Tryz.f282,go_sem,seval]
 repeat' (first | (refine gT ?_ ?_<;>intro hq<;>simp (disch:=omega) only [Sh.out hq,go_sem,seval,↓reduceIte]) | (refine Up (fun hq=> ?_) (fun hq=> ?_)<;>(try simp only [Zs,XX,Z3] at hq)<;>simp (disch:=omega) only [Sh.out hq,go_sem,seval]) | (refine U0 (fun hq=> ?_) (fun hq=> ?_)<;>(try simp only [Zs,XX,Z3] at hq)<;>simp (disch:=omega) only [Sh.out hq,go_sem,seval]))
 all_goals (simp;first | done | omega)
theorem nS (l:List Pt) (c:Bool) (hl:Vg l):PC 292 [.p (.list c (l.map H4))] (.list true []):=by
 obtain ⟨⟨hl1,hl2⟩,hpt⟩:=hl;refine Ze Tryz.func292 rfl ZdK ?_
 have e1: ¬(l.length:Int)=0:=Za
 have e2: ¬(16:Int)<(l.length:Int):=Za
 simp (disch:=omega) only [Tryz.f292,e1,e2,go_sem,seval];refine Zk [0,19,20] (fun k:Nat=> [(3,.p (.list true [])),(21,.p (.int .i64 k))]) (fun _=> []) (fun k=>k<=l.length) (fun k=>l.length-k) 0 Zb (Weak.mk ?_) ?_
 ·simp (disch:=omega) only [go_sem,seval,↓reduceIte]
 ·intro k hk;refine Zc ?_;refine cD ?_ ?_<;>intro h<;>simp (disch:=omega) only [Sh.out h,go_sem,seval,↓reduceIte]
  ·have hk2:k<l.length:=Za
   obtain ⟨⟨p1,p2,p3,p4⟩,q⟩:=hpt k hk2;refine (ZdR k Za).use (Zc ?_);refine (Pb (nth l k).t 0 4096).use (Zc ?_);simp (disch:=omega) only [p1,p2,go_sem,seval];refine gF ?_ ?_<;>intro h3<;>simp (disch:=omega) only [Sh.out h3,go_sem,seval,↓reduceIte]
   ·omega
   ·refine cD ?_ ?_<;>intro h4<;>simp (disch:=omega) only [Sh.out h4,go_sem,seval,↓reduceIte]
    ·omega
    ·refine Xq (Zc ?_);refine gT ?_ ?_<;>intro h5<;>simp (disch:=omega) only [Sh.out h5,go_sem,seval,↓reduceIte]
     ·obtain ⟨r1,r2⟩:=q Za;refine gF ?_ ?_<;>intro h6<;>simp (disch:=omega) only [Sh.out h6,go_sem,seval,↓reduceIte]
      ·omega
      ·refine cD ?_ ?_<;>intro h7<;>simp (disch:=omega) only [Sh.out h7,go_sem,seval,↓reduceIte]
       ·omega
       ·exact ⟨k+1,Za,Za,wk⟩
     ·exact ⟨k+1,Za,Za,wk⟩
theorem Sx (p:Pt) (t:Int) (h:0<=p.t/\p.t<=4096) (ht:0<=t/\t<=1073741824):PC 294 [.p (H4 p),.p (.int .i64 t)] (.int .i64 (p.t-t)):=by
 refine Ze Tryz.func294 rfl ZdM ?_;simp (disch:=omega) only [Tryz.f294,go_sem,seval,↓reduceIte]
theorem wJ (l:List Pt) (c:Bool) (hl:Vg l):PC 283 [.p (.list c (l.map H4))] (.bool true):=by
 refine Ze Tryz.func283 rfl ZdB ?_;simp (disch:=omega) only [Tryz.f283,go_sem,seval];refine (nS l c hl).use ?_;simp (disch:=omega) only [go_sem,seval]
structure PosT (l:List Pt) (t:Int) (i:Nat):Prop where
 le:i<=l.length
 lo: ∀j,j<i->(nth l j).t<t
 hi: ∀j,i<=j->j<l.length->t<=(nth l j).t
theorem Ziz (l:List Pt) (c:Bool) (t:Int) (i:Nat) (hl:Vg l) (ht:0<=t/\t<=1073741824) (hi:PosT l t i):PT 293 [.p (.list c (l.map H4)),.p (.int .i64 t),.fn (.func 294) [] []] [.p (.int .i64 (i:Int)),.p (.bool (decide (i<l.length)&&decide ((nth l i).t=t)))]:=by
 obtain ⟨⟨hl1,hl2⟩,hpt⟩:=hl;obtain ⟨hi1,hi2,hi3⟩:=hi;refine Zf [] Tryz.func293 rfl ZdL ?_;simp (disch:=omega) only [Tryz.f293,go_sem,seval];refine Zk [0,1,2,8] (fun q:Nat×Nat=> [(9,.p (.int .i64 q.1)),(10,.p (.int .i64 q.2))]) (fun _=> []) (fun q=>q.1<=i/\i<=q.2/\q.2<=l.length) (fun q=>q.2-q.1) (0,l.length) (by simp;omega) (Weak.mk ?_) ?_
 ·simp (disch:=omega) only [go_sem,seval,↓reduceIte]
 ·rintro ⟨a,b⟩ ⟨h1,h2,h3⟩;simp only at h1 h2 h3;refine Zc ?_;refine cD ?_ ?_<;>intro h<;>simp (disch:=omega) only [Sh.out h,go_sem,seval,↓reduceIte]
  ·have hm:(a+b) / 2<l.length:=Za
   obtain ⟨⟨p1,p2,p3,p4⟩,q⟩:=hpt _ hm
   have hs:((a:Int)+(b:Int)).fdiv (2^min 1 64)=(((a+b) / 2:Nat):Int):=by
    grind
   have em:((((a+b) / 2:Nat)):Int).toNat=(a+b) / 2:=Za
   have hnb:((a+b) / 2<i)↔(nth l ((a+b) / 2)).t-t<0:=by
    grind
   rw [hs];refine Zc ?_;refine (Sx (nth l ((a+b) / 2)) t ⟨p1,p2⟩ ht).use (Zc ?_);refine cD ?_ ?_<;>intro h4<;>simp (disch:=omega) only [Sh.out h4,go_sem,seval,↓reduceIte]
   ·exact ⟨((a+b) / 2+1,b),⟨Za,h2,h3⟩,Za,wk⟩
   ·exact ⟨(a,(a+b) / 2),⟨h1,Za,Za⟩,Za,wk⟩
  ·have:a=i:=Za
   subst this;refine gT ?_ ?_<;>intro h4<;>simp (disch:=omega) only [Sh.out h4,go_sem,seval,↓reduceIte]
   ·have hm:a<l.length:=Za
    obtain ⟨⟨p1,p2,p3,p4⟩,q⟩:=hpt _ hm;refine (Sx (nth l a) t ⟨p1,p2⟩ ht).use (Zc ?_);have e5:((nth l a).t-t=0)=((nth l a).t=t):=propext Za;exact we (by simp (disch:=omega) only [e5,hm,go_sem,seval])
   ·have hm: ¬a<l.length:=Za
    exact we (by simp (disch:=omega) only [hm,go_sem,seval])
theorem Df {l:List Pt} (hl:Vg l) {k:Nat} (hk:k<l.length): ∀j,j<k->(nth l j).t<(nth l k).t:=by
 obtain ⟨_,hpt⟩:=hl
 induction k with
 | zero=>omega
 | succ k ih =>
  intro j hj;obtain ⟨_,q⟩:=hpt (k+1) hk
  grind
theorem vV {l:List Pt} (hl:Vg l) (t:Int): ∃i,PosT l t i:=by
 have: ∀n,n<=l.length-> ∃i,i<=n/\(∀j,j<i->(nth l j).t<t)/\(i<n->t<=(nth l i).t):=by
  intro n
  induction n with
  | zero=>simp
  | succ n ih =>
   grind
 obtain ⟨i,h1,h2,h3⟩:=this l.length (Zw _);refine ⟨i,h1,h2,fun j hj hjl=> ?_⟩;rcases Nat.lt_or_eq_of_le hj with h | h
 ·have:=Df hl hjl i h;omega
 grind
theorem rQ {l:List Pt} {t:Int} {i:Nat} (hl:Vg l) (h:PosT l t i) (hi:i<l.length) (e:(nth l i).t=t):JY l t=(nth l i).a:=by
 by_cases g:i+1<l.length
 ·have m:=Df hl g i Za;rw [Lm g (fun j hj=> ?_) (by grind [Js]),HJ]
  ·rw [e,Int.sub_self,Int.zero_mul,Ke];rw [Int.ediv_eq_zero_of_lt Za Za];omega
  ·have:(nth l (j+1)).t<=t:=by
    rcases Nat.lt_or_eq_of_le (show j+1<=i by omega) with h1 | h1
    ·have:=h.lo _ h1;omega
    grind
   simp [Js];omega
 ·have hi1:i=l.length-1:=Za
  rw [E4 (fun j hj=> ?_)]
  ·split
   ·grind
   ·have:i=0:=by
     by_cases g2:i=0
     ·exact g2
     ·have:=h.lo 0 Za;omega
    grind
  ·have:(nth l (j+1)).t<=t:=by
    rcases Nat.lt_or_eq_of_le (show j+1<=i by omega) with h1 | h1
    ·have:=h.lo _ h1;omega
    grind
   simp [Js];omega
theorem rT {l:List Pt} {t:Int} (hl:Vg l) (h:PosT l t 0) (e: ¬(nth l 0).t=t):JY l t=t+(nth l 0).a-(nth l 0).t:=by
 have h0:=h.hi 0 (Zw _) hl.1.1;rw [E4 (fun j hj=> ?_),if_neg Za]
 have:t<(nth l j).t:=by
  by_cases g:j=0
  ·grind
  ·have:=Df hl (show j<l.length by omega) 0 Za;omega
 simp [Js];omega
theorem rS {l:List Pt} {t:Int} (h:PosT l t l.length) (hl:0<l.length):JY l t=t+(nth l (l.length-1)).a-(nth l (l.length-1)).t:=by
 rw [E4 (fun j hj=> ?_),if_pos (h.lo 0 hl)];have:=h.lo (j+1) hj;simp [Js];omega
theorem iA {l:List Pt} {t:Int} {i:Nat} (h:PosT l t i) (h0:0<i) (hi:i<l.length) (e: ¬(nth l i).t=t):JY l t=HJ (nth l (i-1)) (nth l i) t:=by
 have e1:i-1+1=i:=Za
 have h1:=h.lo (i-1) Za;have h2:=h.hi i (Zw _) hi;have:=Lm (l:=l) (t:=t) (i:=i-1) Za (fun j hj=>by have:=h.lo (j+1) Za;simp [Js];omega) (by grind [Js]);rw [this,e1]
theorem IK {p q:Pt} {t:Int} (h1:p.t<=t) (h2:t<q.t) (hp:0<=p.t) (hq:q.t<=4096) (ha:p.a<=q.a) (hpa:0<=p.a) (hqa:q.a<=8192) :
  IntKind.i64.wrap (p.a+IntKind.i64.wrap ((IntKind.i64.wrap (IntKind.i64.wrap (IntKind.i64.wrap ((t-p.t)*(q.a-p.a))+(q.t-p.t))-1)).tdiv (q.t-p.t)))=HJ p q t:=by
 have hm:=GY h1 h2 hp hq ha hpa hqa;unfold HJ;generalize hM:(t-p.t)*(q.a-p.a)=m at hm
 have hd:0<=(m+(q.t-p.t)-1) / (q.t-p.t)/\(m+(q.t-p.t)-1) / (q.t-p.t)<=m+(q.t-p.t)-1:=by
  refine ⟨Int.ediv_nonneg Za Za,Int.ediv_le_self _ Za⟩
 rw [IntWalk.i64_in m Za,IntWalk.i64_in (m+(q.t-p.t)) Za,IntWalk.i64_in (m+(q.t-p.t)-1) Za,Int.tdiv_eq_ediv_of_nonneg Za,IntWalk.i64_in ((m+(q.t-p.t)-1) / (q.t-p.t)) Za,IntWalk.i64_in _ Za]
 congr 2
 omega
theorem Rt (l:List Pt) (c:Bool) (t:Int) (hl:Vg l) (ht:0<=t/\t<=1073741824):PC 284 [.p (.list c (l.map H4)),.p (.int .i64 t)] (.int .i64 (JY l t)):=by
 obtain ⟨i,hi⟩:=vV hl t;have hl':=hl;obtain ⟨⟨hl1,hl2⟩,hpt⟩:=hl';refine Ze Tryz.func284 rfl ZdC ?_;simp (disch:=omega) only [Tryz.f284,go_sem,seval];refine Yn (Ziz l c t i hl ht hi) (Zc ?_);obtain ⟨i1,i2,i3⟩:=id hi;refine cD ?_ ?_<;>intro h<;>simp (disch:=omega) only [Sh.out h,go_sem,seval,↓reduceIte]
 ·grind [rQ]
 ·refine cD ?_ ?_<;>intro h0<;>simp (disch:=omega) only [Sh.out h0,go_sem,seval]
  ·have:i=0:=Za
   subst this;obtain ⟨p1,p2⟩:=hpt 0 Za;rw [rT hl hi (fun g=>h ⟨Za,g⟩)];refine Xq ?_;simp (disch:=omega) only [go_sem,seval,↓reduceIte]
  ·refine cD ?_ ?_<;>intro h1<;>simp (disch:=omega) only [Sh.out h1,go_sem,seval]
   ·have:i=l.length:=Za
    subst this;obtain ⟨p1,p2⟩:=hpt (l.length-1) Za;rw [rS hi Za]
    have e1:((l.length:Int)-1).toNat=l.length-1:=Za
    refine Xq ?_;simp (disch:=omega) only [go_sem,seval,↓reduceIte]
   ·have g1:i<l.length:=Za
    rw [iA hi Za g1 (fun g=>h ⟨g1,g⟩)];have g2:=Df hl g1 (i-1) Za;obtain ⟨p1,p2⟩:=hpt i g1;obtain ⟨p3,p4⟩:=hpt (i-1) Za
    have e1:((i:Int)-1).toNat=i-1:=Za
    have q1:=i2 (i-1) Za;have q2:=i3 i (Zw _) g1;have q3: ¬(nth l i).t=t:=fun g=>h ⟨g1,g⟩;have q4:=p2 Za;refine XJ [9,10,11] 12 mixed Zd Zd Zd Zb ?_;simp (disch:=omega) only [e1,go_sem,seval];refine Io 9 10 _ _ _ _ Zd (by refine Zc ?_;exact ⟨rfl,rfl⟩) (by refine Zc ?_;exact ⟨rfl,rfl⟩) ?_ ?_
    ·refine Z0 10 _ _ Zd (by refine Zc ?_;exact ⟨rfl,rfl⟩) (Z0 11 _ _ Zd (by refine Zc ?_;exact ⟨rfl,rfl⟩) (YN ?_));refine Zc ?_;refine Xq (Zc ?_);exact ZY (fun z=>V.p (PV.int IntKind.i64 z)) (IK Za Za Za Za Za Za Za)
    ·refine Z0 9 _ _ Zd (by refine Zc ?_;exact ⟨rfl,rfl⟩) (Z0 11 _ _ Zd (by refine Zc ?_;exact ⟨rfl,rfl⟩) (YN ?_));refine Zc ?_;refine Xq (Zc ?_);exact ZY (fun z=>V.p (PV.int IntKind.i64 z)) (IK Za Za Za Za Za Za Za)
theorem dF (l:List Pt) (c:Bool) (t:Int) (hl:Vg l) (ht:0<=t/\t<=1073741824):PC 264 [.p (.list c (l.map H4)),.p (.int .i64 t)] (.int .i64 (JY l t)):=by
 refine Ze Tryz.func264 rfl Zdi ?_;simp (disch:=omega) only [Tryz.f264,go_sem,seval];refine (Pb t 0 1073741824).use (Zc ?_);simp (disch:=omega) only [ht,go_sem,seval];refine (wJ l c hl).use (Zc ?_);refine (Rt l c t hl ht).use ?_;simp (disch:=omega) only [go_sem,seval]
theorem Ot (n:Net) (p:Int) (hn:n.places.length<=1048576):PC 237 [.p (Cw n),.p (.int .i64 p)] (.bool (Ac n p)):=by
 refine Ze Tryz.func237 rfl ZcT ?_;simp (disch:=omega) only [Tryz.f237,go_sem,seval];refine gT ?_ ?_<;>intro h<;>simp (disch:=omega) only [Sh.out h,go_sem,seval,↓reduceIte]
 ·simp [Ac,h]
 ·simp [Ac,h]
theorem xQ (a:Arc):PC 263 [.p (V2 a)] (.agg [.int .i64 a.src,.int .i64 a.dst,.int .i64 a.prof]):=by
 refine Ze Tryz.func263 rfl Zdh ?_;simp (disch:=omega) only [Tryz.f263,go_sem,seval,↓reduceIte]
theorem vO (a:Arc) (t:Int) (ha:rP a) (ht:0<=t/\t<=1073741824):PC 239 [.p (V2 a),.p (.int .i64 t)] (.int .i64 (Ll a t)):=by
 obtain ⟨h1,h2,h3⟩:=ha;have hr:=FO h1 ht;have hs:=JQ (t:=t) (fun p hp=>(h3 p hp).2.2);refine Ze Tryz.func239 rfl ZcV ?_;simp (disch:=omega) only [Tryz.f239,go_sem,seval];refine (dF a.travel a.travel_c t h1 ht).use (Zc ?_);refine Zk [1,13,14] (fun k:Nat=> [(5,.p (.int .i64 (JY a.travel t+KF a.slow t k))),(15,.p (.int .i64 k))]) (fun _=> [Vk a]) (fun k=>k<=a.slow.length) (fun k=>a.slow.length-k) 0 Zb (Weak.mk ?_) ?_
 ·simp (disch:=omega) only [Vk,KF,VR,go_sem,seval];simp
 ·intro k hk;have hsk:=hs k hk;simp (disch:=omega) only [Vk,go_sem,seval];refine cD ?_ ?_<;>intro h<;>simp (disch:=omega) only [Sh.out h,go_sem,seval,↓reduceIte]
  ·have hk2:k<a.slow.length:=Za
   have hp:=h3 _ (ZL hk2);have hsn:=B1 (t:=t) hk2;refine ZK ?_ ?_<;>intro h4
   ·rw [if_pos h4] at hsn;exact ⟨k+1,Za,Za,Weak.mk (by simp (disch:=omega) only [hsn,Int.add_assoc,go_sem,seval])⟩
   ·rw [if_neg h4] at hsn;exact ⟨k+1,Za,Za,Weak.mk (by simp (disch:=omega) only [hsn,go_sem,seval])⟩
  grind [Ll]
theorem vR (n:Net) (pr f t:Int) (hn:n.arcs.length<=1048576):PT 238 [.p (Cw n),.p (.int .i64 pr),.p (.int .i64 f),.p (.int .i64 t)] [.p (V2 (W4 n pr f t).1),.p (.bool (W4 n pr f t).2)]:=by
 refine Zf [] Tryz.func238 rfl ZcU ?_;simp (disch:=omega) only [Tryz.f238,go_sem,seval];refine Zk [8,10,18,19] (fun k:Nat=> [(20,.p (.int .i64 k))]) (fun _=>Z9 n++ [Vk Uo,.cells [.p (.int .i64 f),.p (.int .i64 t),.p (.int .i64 pr)]]) (fun k=>k<=n.arcs.length/\ ∀j,j<k->VG pr f t (nth n.arcs j)=false) (fun k=>n.arcs.length-k) 0 Zb (Weak.mk ?_) ?_
 ·simp (disch:=omega) only [Z9,Vk,Uo,Zn,ZO,ZD,go_sem,seval]
 ·rintro k ⟨hk,hno⟩;simp (disch:=omega) only [Z9,Vk,Uo,Zn,ZO,ZD,go_sem,seval];refine cD ?_ ?_<;>intro h<;>simp (disch:=omega) only [Sh.out h,go_sem,seval,↓reduceIte]
  ·have hk2:k<n.arcs.length:=Za
   have nx:VG pr f t (nth n.arcs k)=false-> ∀j,j<k+1->VG pr f t (nth n.arcs j)=false:=fun h=>Zp.2 ⟨hno,h⟩;refine Xq (Zc ?_);refine Zo (xQ (nth n.arcs k)) (Zc ?_);refine ZK ?_ ?_<;>intro h1
   ·have e:=ND hk2 hno (by simp [VG,h1]);obtain ⟨rfl,rfl,rfl⟩:=h1;rw [e];exact we
   ·have e2:VG pr f t (nth n.arcs k)=false:=by
     simp_all [VG]
    exact ⟨k+1,⟨Za,nx e2⟩,Za,wk⟩
  ·have hkn:k=n.arcs.length:=Za
   subst hkn;rw [NE hno];exact we (by simp (disch:=omega) only [Uo,Zn,go_sem,seval])
theorem zM (n:Net) (pr f t τ:Int) (hn:netR n) (hτ:0<=τ/\τ<=1073741824):PT 221 [.p (Cw n),.p (.int .i64 pr),.p (.int .i64 f),.p (.int .i64 t),.p (.int .i64 τ)] [.p (.int .i64 (W5 n pr f t τ).1),.p (.int .i64 (W5 n pr f t τ).2.1),.p (.int .i64 (W5 n pr f t τ).2.2)]:=by
 refine Zf [] Tryz.func221 rfl ZcG ?_;simp (disch:=omega) only [Tryz.f221,go_sem,seval];refine (Ot n f hn.1).use (Zc ?_);refine gF ?_ ?_<;>intro h1<;>simp (disch:=omega) only [Sh.out h1,go_sem,seval,↓reduceIte]
 ·have e:W5 n pr f t τ=(0,0,11):=by grind [W5]
  rw [e];exact we
 ·simp only [XR] at h1;refine (Ot n t hn.1).use (Zc ?_);refine cD ?_ ?_<;>intro h2<;>simp (disch:=omega) only [Sh.out h2,go_sem,seval]
  ·have e:W5 n pr f t τ=(0,0,11):=by grind [W5]
   rw [e];exact we
  ·simp only [XR] at h2;refine cD ?_ ?_<;>intro h3<;>simp (disch:=omega) only [Sh.out h3,go_sem,seval,↓reduceIte]
   ·have e:W5 n pr f t τ=(τ,0,0):=by grind [W5]
    rw [e];exact we
   ·have cf:=vR n pr f t hn.2.1;have hm:= @AD n pr f t
    have e0:W5 n pr f t τ=if (W4 n pr f t).2=true then (Ll (W4 n pr f t).1 τ,(W4 n pr f t).1.miles,0) else (0,0,12):=by grind [W5]
    rw [e0];generalize W4 n pr f t=A at cf hm ⊢;obtain ⟨a,b⟩:=A;simp only at cf hm ⊢;refine Yn cf (Zc ?_);refine cD ?_ ?_<;>intro h4<;>simp (disch:=omega) only [Sh.out h4,go_sem,seval]
    ·have hb:b=false:=by grind
     subst hb;exact we (by simp (disch:=omega) only [go_sem,seval,↓reduceIte])
    ·have hb:b=true:=by grind
     subst hb;refine Xq (Zc ?_);refine Zo (vO a τ (hn.2.2 a (hm rfl)) hτ) (Zc ?_);exact we
def FV (s:Stp) (a:Int):Int×Int:=if max a s.opn>s.cls then (0,14) else (max a s.opn,0)
theorem Sl (s:Stp) (a:Int):PT 240 [.p (F4 s),.p (.int .i64 a)] [.p (.int .i64 (FV s a).1),.p (.int .i64 (FV s a).2)]:=by
 refine Zf [] Tryz.func240 rfl ZcW ?_;simp (disch:=omega) only [Tryz.f240,go_sem,seval];refine cD ?_ ?_<;>intro h<;>simp (disch:=omega) only [Sh.out h,go_sem,seval]
 ·have e:FV s a=(0,14):=by simp_all [FV]
  rw [e];exact we
 ·have e:FV s a=(max a s.opn,0):=by simp_all [FV]
  rw [e];exact we
theorem nY (l:List Ord) (c:Bool) (p:Int) (hl:l.length<=1048576):PC 188 [.p (.list c (l.map Yo)),.p (.int .i64 p)] (.bool (decide (0<=p)&&decide (p<(l.length:Int)))):=by
 refine Ze Tryz.func188 rfl lZ ?_;simp (disch:=omega) only [Tryz.f188,go_sem,seval];refine gT ?_ ?_<;>intro h<;>simp (disch:=omega) only [Sh.out h,go_sem,seval,↓reduceIte]
 all_goals simp [h]
theorem Tt (x:Inst) (v:Vis) (ho:x.orders.length<=1048576) (hv:NR x v=true) (hp:0<=(Xp x v).place):PT 193 [.p (.list x.orders_c (x.orders.map Yo)),.p (Z7 v)] [.p (F4 (Xp x v)),.p (.int .i64 0)]:=by
 refine Zf [] Tryz.func193 rfl Zcq ?_;simp (disch:=omega) only [Tryz.f193,go_sem,seval];have hv':=hv;rw [NR] at hv';have ct:=nY x.orders x.orders_c v.order ho;rw [hv'] at ct;refine ct.use ?_;simp only [ZE,Zs] at hv';obtain ⟨h1,h2⟩:=hv'
 have hi:v.order.toNat<x.orders.length:=Za
 refine Zc ?_;refine cD ?_ ?_<;>intro hd<;>simp (disch:=omega) only [Sh.out hd,go_sem,seval,↓reduceIte]
 ·have e:Xp x v=(nth x.orders v.order.toNat).drp:=by simp [Xp,hd]
  rw [e] at hp ⊢
  have e3: ¬(nth x.orders v.order.toNat).drp.place<0:=Za
  simp (disch:=omega) only [e3,go_sem,seval];exact we
 ·have e:Xp x v=(nth x.orders v.order.toNat).pick:=by simp [Xp,hd]
  rw [e] at hp ⊢
  have e3: ¬(nth x.orders v.order.toNat).pick.place<0:=Za
  simp (disch:=omega) only [e3,go_sem,seval];exact we
theorem vQ (l:List Typ) (c:Bool) (ht:l.length<=1048576):PC 274 [.p (.list c (l.map X8))] (.int .i64 (dimsOf l)):=by
 refine Ze Tryz.func274 rfl Zds ?_;simp (disch:=omega) only [Tryz.f274,go_sem,seval];refine cD ?_ ?_<;>intro h1<;>simp (disch:=omega) only [Sh.out h1,go_sem,seval,↓reduceIte]
 ·grind [dimsOf]
 simp_all [dimsOf]
theorem vS (a b:List Int) (c d:Bool) (ha:a.length<=1048576) (hb:b.length<=1048576):PC 255 [.p (.list c (a.map eI)),.p (.list d (b.map eI))] (.bool (V4 a b)):=by
 refine Ze Tryz.func255 rfl Zda ?_;simp (disch:=omega) only [Tryz.f255,go_sem,seval];refine cD ?_ ?_<;>intro h1<;>simp (disch:=omega) only [Sh.out h1,go_sem,seval]
 ·grind [V4]
 ·have h1':a.length=b.length:=Za
  refine Zk [1,12,13] (fun k:Nat=> [(14,.p (.int .i64 k))]) (fun _=> []) (fun k=>k<=a.length/\ ∀j,j<k->nth a j<=nth b j) (fun k=>a.length-k) 0 Zb (Weak.mk ?_) ?_
  ·simp (disch:=omega) only [go_sem,seval]
  ·rintro k ⟨hk,hno⟩;refine Zc ?_;refine cD ?_ ?_<;>intro h2<;>simp (disch:=omega) only [Sh.out h2,go_sem,seval,↓reduceIte]
   ·have hk2:k<a.length:=Za
    refine ZK ?_ ?_<;>intro h3
    ·grind [V4]
    ·exact ⟨k+1,⟨Za,Zp.2 ⟨hno,Za⟩⟩,Za,wk⟩
   ·have hkl:k=a.length:=Za
    simp_all [V4]
theorem vN (t:Typ) (s:Int) (h1:t.skills<9223372036854775808) (h2:s<9223372036854775808):PC 251 [.p (X8 t),.p (.int .i64 s)] (.bool (Yq t s)):=by
 refine Ze Tryz.func251 rfl Zc6 ?_;simp (disch:=omega) only [Tryz.f251,go_sem,seval];refine gT ?_ ?_<;>intro c1<;>simp (disch:=omega) only [Sh.out c1,go_sem,seval,↓reduceIte]
 ·refine gT ?_ ?_<;>intro c2<;>simp (disch:=omega) only [Sh.out c2,go_sem,seval,↓reduceIte]
  ·obtain ⟨M,hM⟩: ∃M:Nat,t.skills=(M:Int):=⟨t.skills.toNat,Za⟩;obtain ⟨S,rfl⟩: ∃S:Nat,s=(S:Int):=⟨s.toNat,Za⟩;have hb:=Et (S:=S) (M:=M) Za
   have e:Yq t (S:Int)=(List.range 63).all fun i=> !S.testBit i||M.testBit i:=by
    simp_all [Yq]
   have hd:decide (IntKind.i64.wrap ((BitVec.ofInt 64 (S:Int)&&& ~~~BitVec.ofInt 64 (M:Int)).toNat:Int)=0)=((List.range 63).all fun i=> !S.testBit i||M.testBit i):=by
    grind
   rw [e,hM];exact ZY (fun b=>V.p (PV.bool b)) hd
  grind [Yq]
 grind [Yq]
theorem Zec (a b:Int) (h: -1073741824<=a/\a<=1073741824/\ -1073741824<=b/\b<=1073741824):PC 287 [.p (.int .i64 a),.p (.int .i64 b)] (.int .i64 (a+b)):=by
 refine Ze Tryz.func287 rfl ZdF ?_;simp (disch:=omega) only [Tryz.f287,go_sem,seval]
theorem uV (a b:Int) (h: -1073741824<=a/\a<=1073741824/\ -1073741824<=b/\b<=1073741824):PC 288 [.p (.int .i64 a),.p (.int .i64 b)] (.int .i64 (a-b)):=by
 refine Ze Tryz.func288 rfl ZdG ?_;simp (disch:=omega) only [Tryz.f288,go_sem,seval]
def fR (f:Nat->Int) (n k:Nat):List Int:=(List.range n).map fun j=>if j<k then f j else 0
theorem uW {f:Nat->Int} {n k:Nat} :(fR f n k).length=n:=by simp [fR]
theorem mT {f:Nat->Int} {n:Nat} :fR f n 0=List.replicate n 0:=by
 apply Jo (by simp [fR]);grind [fR]
theorem mS {f:Nat->Int} {n:Nat} :fR f n n=(List.range n).map f:=by
 simp_all [fR]
theorem uX {f:Nat->Int} {n k:Nat} (h:k<n):(fR f n k).set k (f k)=fR f n (k+1):=by
 apply Jo (by simp [fR]);grind [fR]
theorem HZ (a b:List Int) (c d:Bool) (g:FuncId) (f:Int->Int->Int) (hl:a.length=b.length) (ha:a.length<=1048576)
  (hf: ∀j,j<a.length->ACalls Tryz.prog g [.p (.int .i64 (nth a j)),.p (.int .i64 (nth b j))] [] fun x H'=>x= .p (.int .i64 (f (nth a j) (nth b j)))/\H'= []) :
  PT 286 [.p (.list c (a.map eI)),.p (.list d (b.map eI)),.fn (.func g) [] []] [.p (.list false (((List.range a.length).map fun j=>f (nth a j) (nth b j)).map eI)),.p (.int .i64 0)]:=by
 refine Zf [9] Tryz.func286 rfl ZdE ?_;simp (disch:=omega) only [Tryz.f286,go_sem,seval];refine cD ?_ ?_<;>intro h0<;>simp (disch:=omega) only [Sh.out h0,go_sem,seval]
 ·omega
 ·have hz:=mT (f:=fun j=>f (nth a j) (nth b j)) (n:=a.length);have hml:=fun k=>uW (f:=fun j=>f (nth a j) (nth b j)) (n:=a.length) (k:=k);refine ZZ [9] [0,1,2,8,19] (fun k:Nat=> [(20,.p (.int .i64 k))]) (fun k=> [.elems 1 ((fR (fun j=>f (nth a j) (nth b j)) a.length k).map eI)]) (fun k=>k<=a.length) (fun k=>a.length-k) 0 Zb (Weak.mk ?_) ?_
  ·simp (disch:=omega) only [hz,go_sem,seval];rw [AO];rfl
  ·intro k hk;refine Zc ?_;refine cD ?_ ?_<;>intro h1<;>simp (disch:=omega) only [Sh.out h1,go_sem,seval,↓reduceIte]
   ·have hk2:k<a.length:=Za
    have hs:=uX (f:=fun j=>f (nth a j) (nth b j)) (n:=a.length) hk2;have hk3:=hml k;refine ZB 12 mixed Zd Zd ?_;refine Zc ?_;refine Zo (hf k hk2) ?_;refine Zc ?_;simp (disch:=first | omega | (simp only [ZC,ZG,ZJ,Z2,Xi,XN]<;>omega)) only [go_sem,seval,↓reduceIte];refine ⟨k+1,Za,Za,Weak.mk ?_⟩;simp (disch:=omega) only [<- hs,go_sem,seval];rw [U6];rfl
   ·have hkl:k=a.length:=Za
    subst hkl;rw [<- mS];have hk3:=hml a.length;refine Zq (Weak.fz (o:=0) (by rfl)) ?_;refine Zg [] _ _ _ _ ?_;simp (disch:=omega) only [Zr,Zn,Z1,go_sem,seval];rw [if_pos hk3];exact we
theorem nQ (a b:List Int) (c d:Bool) (hl:a.length=b.length) (ha:a.length<=1048576) (h: ∀j,j<a.length-> -1073741824<=nth a j/\nth a j<=1073741824/\ -1073741824<=nth b j/\nth b j<=1073741824):PT 275 [.p (.list c (a.map eI)),.p (.list d (b.map eI))] [.p (.list false ((FG a b).map eI)),.p (.int .i64 0)]:=by
 refine Zf [] Tryz.func275 rfl Zdt ?_;simp (disch:=omega) only [Tryz.f275,go_sem,seval];refine Yn (HZ a b c d 287 (fun m n=>m+n) hl ha fun j hj=>Zec _ _ (h j hj)) ?_;simp (disch:=omega) only [FG,go_sem,seval];exact we
theorem Zd9 (a b:List Int) (c d:Bool) (hl:a.length=b.length) (ha:a.length<=1048576) (h: ∀j,j<a.length-> -1073741824<=nth a j/\nth a j<=1073741824/\ -1073741824<=nth b j/\nth b j<=1073741824):PT 276 [.p (.list c (a.map eI)),.p (.list d (b.map eI))] [.p (.list false ((xB a b).map eI)),.p (.int .i64 0)]:=by
 refine Zf [] Tryz.func276 rfl Zdu ?_;simp (disch:=omega) only [Tryz.f276,go_sem,seval];refine Yn (HZ a b c d 288 (fun m n=>m-n) hl ha fun j hj=>uV _ _ (h j hj)) ?_;simp (disch:=omega) only [xB,go_sem,seval];exact we
theorem nU (x:Inst) (r:Rte) (ht:0<=r.typ/\r.typ<(x.types.length:Int)) (hv: ∀v∈r.visits,NR x v=true) (hl:r.visits.length<=1048576) (hxl:x.types.length<=1048576) (hol:x.orders.length<=1048576)
  (hs:(ZF x r).skills<9223372036854775808) (ho: ∀o∈x.orders,o.skills<9223372036854775808) :
  PC 230 [.p (Zv x),.p (Wd r)] (.int .i64 (if (r.visits.any fun v=> !Yq (ZF x r) (nth x.orders v.order.toNat).skills)=true then 18 else 0)):=by
 refine Ze Tryz.func230 rfl ZcM ?_;simp (disch:=omega) only [Tryz.f230,go_sem,seval];refine Zk [2,3,8,9] (fun k:Nat=> [(10,.p (.int .i64 k))]) (fun _=> [Zi x,.cells [.p (.int .i64 r.typ),.p (.int .i64 r.start),.p (.list r.rests_c (r.rests.map eB)),.p (.list r.visits_c (r.visits.map Z7))]]) (fun k=>k<=r.visits.length/\ ∀j,j<k->Yq (ZF x r) (nth x.orders (nth r.visits j).order.toNat).skills=true) (fun k=>r.visits.length-k) 0 Zb (Weak.mk ?_) ?_
 ·simp (disch:=omega) only [Zi,go_sem,seval]
 ·rintro k ⟨hk,hno⟩;refine Yl ?_;refine cD ?_ ?_<;>intro h1<;>simp (disch:=omega) only [Sh.out h1,go_sem,seval,↓reduceIte]
  ·have hk2:k<r.visits.length:=Za
   have hin:=hv _ (ZL hk2);simp only [NR,ZE,Zs] at hin;obtain ⟨i1,i2⟩:=hin
   have hi:(nth r.visits k).order.toNat<x.orders.length:=Za
   have ho':=ho _ (ZL hi);refine Xq (Zc ?_);refine Zo (vN (ZF x r) (nth x.orders (nth r.visits k).order.toNat).skills Za Za) (Zc ?_);refine ZK ?_ ?_<;>intro h2
   ·have:(r.visits.any fun v=> !Yq (ZF x r) (nth x.orders v.order.toNat).skills)=true:=by
     grind [ZL]
    grind
   ·exact ⟨k+1,⟨Za,Zp.2 ⟨hno,by grind⟩⟩,Za,wk⟩
  ·have: ¬(r.visits.any fun v=> !Yq (ZF x r) (nth x.orders v.order.toNat).skills)=true:=by
    rw [Wx];rintro ⟨v,hv,e⟩;obtain ⟨j,hj,rfl⟩:=ZN.1 hv
    grind [Zh]
   grind
def TJ (x:Inst) (d:Nat) (ms:List Int) (k:Nat):List Int:=(ms.take k).foldl (fun s i=>if (nth x.orders i.toNat).pick.place<0 then FG s (nth x.orders i.toNat).load else s) (List.replicate d 0)
theorem OW {x:Inst} {d:Nat} {ms:List Int} {k:Nat} (h:k<ms.length):TJ x d ms (k+1)=if (nth x.orders (nth ms k).toNat).pick.place<0 then FG (TJ x d ms k) (nth x.orders (nth ms k).toNat).load else TJ x d ms k:=by
 grind [TJ,XZ,Zh]
theorem TK {x:Inst} {d:Nat} {ms:List Int} (hms: ∀i∈ms,∀j,j<d->0<=nth (nth x.orders i.toNat).load j/\nth (nth x.orders i.toNat).load j<=1000): ∀k,k<=ms.length->(TJ x d ms k).length=d/\ ∀j,j<d->0<=nth (TJ x d ms k) j/\nth (TJ x d ms k) j<=1000*k
 | 0,_=>by
  grind [TJ,Zh]
 | k+1,h=>by
  obtain ⟨h1,h2⟩:=TK hms k Za;rw [OW Za]
  split
  ·refine ⟨by simp [FG,h1],fun j hj=> ?_⟩;have a1:=h2 j hj;have a2:=hms _ (ZL (show k<ms.length by omega)) j hj;rw [FG,Aa Za];omega
  ·exact ⟨h1,fun j hj=>by have:=h2 j hj;omega⟩
theorem wZ (x:Inst) (S:Int) (d:Nat) (hd:d<=3) (hol:x.orders.length<=1048576) (hms: ∀i∈X7 S 63,0<=i/\i<(x.orders.length:Int)) (hml:(X7 S 63).length<=63)
  (hld: ∀o∈x.orders,o.load.length=d/\ ∀n∈o.load,0<=n/\n<=1000) :
  PC 273 [.p (Zv x),.p (.int .i64 S),.p (.int .i64 (d:Int))] (.list false ((TJ x d (X7 S 63) (X7 S 63).length).map eI)):=by
 have hmo: ∀i∈X7 S 63,i.toNat<x.orders.length:=fun i hi=>by grind
 have hrg:=TK (x:=x) (d:=d) (ms:=X7 S 63) fun i hi j hj=>by
  grind [ZL]
 refine Ze Tryz.func273 rfl Zdr ?_;simp (disch:=omega) only [Tryz.f273,go_sem,seval];refine (DU S).useF (Zc ?_);refine Zq ((Weak.fz (o:=1) (by rfl)).trans (Weak.fz (o:=2) (by rfl))) ?_;simp (disch:=omega) only [Zr,Zn,Xa,Z1,CS,eq_self,go_sem,seval]
 have hz:List.replicate d (PV.int .i64 0)=(TJ x d (X7 S 63) 0).map eI:=by
  show _=(List.replicate d 0).map eI
  rw [AO];rfl
 refine Zk [3,13,14] (fun k:Nat=> [(7,.p (.list false ((TJ x d (X7 S 63) k).map eI))),(15,.p (.int .i64 k))]) (fun _=> [Zi x,.dead,.dead]) (fun k=>k<=(X7 S 63).length) (fun k=>(X7 S 63).length-k) 0 Zb (Weak.mk ?_) ?_
 ·simp (disch:=omega) only [Zi,hz,go_sem,seval]
 ·intro k hk;have hk1:=hrg k hk;have hsn:=fun h=>OW (x:=x) (d:=d) (ms:=X7 S 63) (k:=k) h;refine Yl ?_;refine cD ?_ ?_<;>intro h1<;>simp (disch:=omega) only [Sh.out h1,go_sem,seval,↓reduceIte]
  ·have hk2:k<(X7 S 63).length:=Za
   have hm:=hms _ (ZL hk2);have hi:=hmo _ (ZL hk2);have hlo:=hld _ (ZL hi);have hsn:=hsn hk2;refine Zc ?_;refine ZK ?_ ?_<;>intro h2
   ·rw [if_pos h2] at hsn;refine Yn (nQ (TJ x d (X7 S 63) k) (nth x.orders (nth (X7 S 63) k).toNat).load false (nth x.orders (nth (X7 S 63) k).toNat).load_c Za Za fun j hj=> ?_) ?_
    ·have b1:=hk1.2 j Za;have b2:=hlo.2 _ (ZL (show j<(nth x.orders (nth (X7 S 63) k).toNat).load.length by omega));omega
    ·refine Zc ?_;exact ⟨k+1,Za,Za,Weak.mk (by simp (disch:=omega) only [hsn,go_sem,seval])⟩
   ·rw [if_neg h2] at hsn;exact ⟨k+1,Za,Za,Weak.mk (by simp (disch:=omega) only [hsn,go_sem,seval])⟩
  grind
theorem P7 {p:Nat->Bool} {n:Nat} (h: ∀i,n<=i->p i=false): ∀k,n<=k->(List.range k).filter p=(List.range n).filter p:=by
 intro k hk
 induction k with
 | zero=>grind
 | succ k ih =>
  grind [X6]
theorem Zkw {x:Inst} {l:List Vis} (hi:Inr x l) (hn:x.orders.length<=10):X7 ((Xo l:Nat):Int) 63=((List.range x.orders.length).filter fun (i:Nat)=>hasO l (i:Int)).map fun (i:Nat)=>(i:Int):=by
 have key: ∀i:Nat,i<=62->sHas ((Xo l:Nat):Int) (i:Int)=hasO l (i:Int):=fun i h=>by
  rw [WQ _ _ h,Wf,C7,Yd]
  constructor
  ·rintro ⟨v,hv,e⟩;exact ⟨v,hv,by have:=hi v hv;omega⟩
  grind
 unfold X7;rw [QR (q:=fun (i:Nat)=>hasO l (i:Int)) (fun i hm=>key i (by grind)),P7 (n:=x.orders.length) (fun i h=> ?_) 63 Za]
 cases hh:hasO l (i:Int) with
 | false=>rfl
 | true =>
  obtain ⟨v,hv,e⟩:=Yd.1 hh;have:=hi v hv;omega
theorem lB {x:Inst} {d:Nat} : ∀(L:List Nat) (g:Nat->Int),(L.map fun (i:Nat)=>(i:Int)).foldl (fun s (i:Int)=>if (nth x.orders i.toNat).pick.place<0 then FG s (nth x.orders i.toNat).load else s) ((List.range d).map g)=(List.range d).map fun j=>g j+(L.map fun i=>if (nth x.orders i).pick.place<0 then nth (nth x.orders i).load j else 0).sum
 | [],g=>Zb
 | i::L,g=>by
  rw [Zr,XO,XY]
  by_cases h:(nth x.orders i).pick.place<0
  ·have e:FG ((List.range d).map g) (nth x.orders i).load=(List.range d).map fun j=>g j+nth (nth x.orders i).load j:=by
    grind [FG,Y0,Aa]
   rw [if_pos h,e,lB L]
   grind
  ·rw [if_neg h,lB L]
   grind
theorem eY {x:Inst} {l:List Vis} (hi:Inr x l) (hn:x.orders.length<=10):TJ x (dimsOf x.types).toNat (X7 ((Xo l:Nat):Int) 63) (X7 ((Xo l:Nat):Int) 63).length=Wm x l 0:=by
 rw [TJ,X5,Zkw hi hn];have:=lB (x:=x) (d:=(dimsOf x.types).toNat) ((List.range x.orders.length).filter fun (i:Nat)=>hasO l (i:Int)) fun _=>0
 have e:(List.range (dimsOf x.types).toNat).map (fun _=>(0:Int))=List.replicate (dimsOf x.types).toNat 0:=by
  simp_all [List.map_const']
 rw [e] at this;rw [this,Wm];refine Y0 fun j _=> ?_;rw [Ke,Kv,Ek]
 congr 1
 refine Y0 fun i _=> ?_
 grind [nJ]
theorem pY {x:Inst} {l:List Vis} {n j:Nat} {d:Nat} (hj:j<d) (hld: ∀o∈x.orders,o.load.length=d/\ ∀n∈o.load,0<=n/\n<=1000) (hn:x.orders.length<=10):0<=Ek x l n j/\Ek x l n j<=10000:=by
 have key:=TM (f:=fun i=>if i<x.orders.length then (if (Fo x l n i&&hasO l i)=true then nth (nth x.orders i).load j else 0) else 0) (b:=1000) Za (fun q=>by
  grind [ZL]) x.orders.length
 have e:Ek x l n j=((List.range x.orders.length).map fun i=>if i<x.orders.length then (if (Fo x l n i&&hasO l i)=true then nth (nth x.orders i).load j else 0) else 0).sum:=by
  simp_all [Ek,Y0]
 omega
theorem gP {x:Inst} {l:List Vis} {n j:Nat} (hj:j<(dimsOf x.types).toNat) (hd:LdOk x):0<=nth (Wm x l n) j/\nth (Wm x l n) j<=10000:=by
 rw [Wm,Aa hj];exact pY hj (fun o ho=>by obtain ⟨h1,h2⟩:=hd.load o ho;grind) hd.ord
def yV {α:Type} (f:α->Bool) (l:List α):Int:=match l.findIdx? f with | some i=>(i:Int) | none=> -1
theorem lD {α:Type} [Inhabited α] {f:α->Bool} {l:List α} {k:Nat} (hk:k<l.length) (h:f (nth l k)=true) (hno: ∀j,j<k->f (nth l j)=false):yV f l=(k:Int):=by
 have:l.findIdx? f=some k:=by
  grind [UK,Zh]
 simp [yV,this]
theorem lF {α:Type} [Inhabited α] {f:α->Bool} {l:List α} (hno: ∀j,j<l.length->f (nth l j)=false):yV f l= -1:=by
 have:l.findIdx? f=none:=by
  rw [List.findIdx?_eq_none_iff];intro x hx;obtain ⟨j,hj,rfl⟩:=ZN.1 hx
  grind [Zh]
 simp [yV,this]
theorem lE {α:Type} {f:α->Bool} {l:List α} :decide (0<=yV f l)=l.any f:=by
 grind [yV]
theorem bW (l:List (List Int)) (c:Bool) (g:FuncId) (caps:List V) (H:List AM.Obj) (f:List Int->Bool) (hl:l.length<=1048576) (hW:Pc H H.length H H) (hc:Xv H.length caps=true)
  (hg: ∀v∈l,ACalls Tryz.prog g (.p (qZ v)::caps) H fun x H'=>x= .p (.bool (f v))/\H'=H) :
  ACalls Tryz.prog 277 [.p (.list c (l.map qZ)),.fn (.func g) [] caps] H fun x H'=>x= .p (.int .i64 (yV f l))/\H'=H:=by
 refine YI Tryz.func277 rfl Zdv (Zg [] _ _ _ _ ?_);simp (disch:=omega) only [Tryz.f277,go_sem,seval];refine Zk [0,1,7] (fun k:Nat=> [(8,.p (.int .i64 k))]) (fun _=>H) (fun k=>k<=l.length/\ ∀j,j<k->f (nth l j)=false) (fun k=>l.length-k) 0 Zb (Weak.mk ?_) ?_
 ·simp (disch:=omega) only [hW,hc,go_sem,seval];simp
 ·rintro k ⟨hk,hno⟩;refine Zc ?_;refine cD ?_ ?_<;>intro h<;>simp (disch:=omega) only [Sh.out h,go_sem,seval,↓reduceIte]
  ·have hk2:k<l.length:=Za
   have hgk:=hg (nth l k) (Zt hk2);simp (disch:=omega) only [Zbd,go_sem,seval] at hgk;refine hgk.useH (Zc ?_);refine cD ?_ ?_<;>intro h2<;>simp (disch:=omega) only [Sh.out h2,go_sem,seval,↓reduceIte]
   ·grind [lD]
   ·have h3:f (nth l k)=false:=Za
    refine ⟨k+1,⟨Za,Zp.2 ⟨hno,h3⟩⟩,Za,Weak.mk ?_⟩;simp (disch:=omega) only [hW,hc,go_sem,seval];simp
  grind [lF]
theorem LH (l:List (List Int)) (c:Bool) (g:FuncId) (caps:List V) (H:List AM.Obj) (f:List Int->Bool) (hl:l.length<=1048576) (hW:Pc H H.length H H) (hc:Xv H.length caps=true)
  (hg: ∀v∈l,ACalls Tryz.prog g (.p (qZ v)::caps) H fun x H'=>x= .p (.bool (f v))/\H'=H) :
  ACalls Tryz.prog 253 [.p (.list c (l.map qZ)),.fn (.func g) [] caps] H fun x H'=>x= .p (.bool (l.any f))/\H'=H:=by
 refine YI Tryz.func253 rfl Zc8 (Zg [] _ _ _ _ ?_);simp (disch:=omega) only [Tryz.f253,go_sem,seval];refine (bW l c g caps H f hl hW hc hg).useH (Zc ?_);rw [lE]
theorem nW (x:Inst) (r:Rte) (hx:InstOk x) (hl:r.visits.length<=1048576):PC 229 [.p (Zv x),.p (Wd r)] (.int .i64 (Xk x r.visits)):=by
 have hf:=Xz hx;obtain ⟨h1,h2⟩:=Ue.1 hx.rules
 have ha:x.apart.length<=1048576:=by
  have h3:=(Ue.1 h1).1
  grind [HA]
 have hb:x.before.length<=1048576:=by
  have h3:=(Ue.1 h2).1
  grind [HA]
 exact RQ x r (by have:=hf.len;omega) hl ha hb
theorem vM {x:Inst} {l:List Vis} (hi:Inr x l) (hn:x.orders.length<=10):Jp l=(((Xo l:Nat):Int),0):=by
 rw [Jp,if_pos];rw [Zx];intro v hv;have:=hi v hv;simp [HB];omega
theorem Zq4 {α:Type} (f:Nat->α) (n:Nat):(List.range n).map f++ [f n]=(List.range (n+1)).map f:=by grind [X6]
theorem nT (x:Inst) (r:Rte) (hx:InstOk x) (hl:r.visits.length<=1048576) (h0:Xk x r.visits=0) :
  PT 252 [.p (Zv x),.p (Wd r)] [.p (.list false ((QZ x r.visits).map qZ)),.p (.int .i64 0)]:=by
 have hd:=QP hx;have hsq:=VY h0;have hol:=hd.ord;have hso:=ON r hl;rw [vM hsq.inr hol] at hso
 have hD:dimsOf x.types=((dimsOf x.types).toNat:Int):=by have:=hd.dim;omega
 have cd:=vQ x.types x.types_c hd.typ;rw [hD] at cd;have hst:=eY hsq.inr hol
 have hmem: ∀i∈X7 ((Xo r.visits:Nat):Int) 63,0<=i/\i<(x.orders.length:Int):=fun i hi=>by
  rw [Zkw hsq.inr hol] at hi
  grind
 have cs:=wZ x ((Xo r.visits:Nat):Int) (dimsOf x.types).toNat (by have:=hd.dim;omega) Za hmem (C0 _ _) (fun o ho=>by have:=hd.load o ho;grind);rw [hst] at cs;refine Zf [20] Tryz.func252 rfl Zc7 ?_;simp (disch:=omega) only [Tryz.f252,go_sem,seval];refine (nW x r hx hl).use (Zc ?_);simp (disch:=omega) only [h0,go_sem,seval];refine Yn hso (Zc ?_);refine Xq (Zc ?_);refine Zo (cd) (Zc ?_);refine Zo (cs) (Zc ?_);refine ZZ [20] [2,37,38] (fun q:Nat×List (List Int)=> [(9,.p (.list false ((Wm x r.visits q.1).map eI))),(10,.sl 2 0 q.2.length q.2.length),(39,.p (.int .i64 q.1))]) (fun q=> [Zi x,XA r,.elems 1 (q.2.map qZ)]) (fun q=>q.1<=r.visits.length/\q.2=(List.range (q.1+1)).map (Wm x r.visits)) (fun q=>r.visits.length-q.1) (0,[Wm x r.visits 0]) Zb (Weak.mk ?_) ?_
 ·simp (disch:=omega) only [Zi,XA,Zn,Zr,ZG,ZC,go_sem,seval]
 ·rintro ⟨k,o⟩ ⟨hk,ho⟩;simp only at hk ho
  have hol2:o.length=k+1:=by rw [ho];simp
  refine Am ?_;refine cD ?_ ?_<;>intro h1<;>simp (disch:=omega) only [Sh.out h1,go_sem,seval,↓reduceIte]
  ·have hk2:k<r.visits.length:=Za
   obtain ⟨v1,v2⟩:=hsq.inr _ (Zt hk2)
   have hi:(nth r.visits k).order.toNat<x.orders.length:=Za
   obtain ⟨l1,l2⟩:=hd.load _ (ZL hi);have hsu:=T4 hsq hk2;have hal:=FH (x:=x) (l:=r.visits) (n:=k);have hdm:=hd.dim
   have hrg: ∀j,j<(Wm x r.visits k).length-> -1073741824<=nth (Wm x r.visits k) j/\nth (Wm x r.visits k) j<=1073741824/\ -1073741824<=nth (nth x.orders (nth r.visits k).order.toNat).load j/\nth (nth x.orders (nth r.visits k).order.toNat).load j<=1073741824:=fun j hj=>by
    have b1:=gP (x:=x) (l:=r.visits) (n:=k) (j:=j) Za hd
    grind [ZL]
   refine cD ?_ ?_<;>intro h2<;>simp (disch:=omega) only [Sh.out h2,go_sem,seval,↓reduceIte]
   ·rw [if_pos h2] at hsu;refine Yn (Zd9 (Wm x r.visits k) (nth x.orders (nth r.visits k).order.toNat).load false (nth x.orders (nth r.visits k).order.toNat).load_c Za Za hrg) (Zc ?_);exact ⟨(k+1,o++ [Wm x r.visits (k+1)]),⟨Za,by grind⟩,Za,Weak.mk (by simp (disch:=omega) only [hsu,ZJ,ZC,ZG,XD,Zr,Zn,go_sem,seval])⟩
   ·rw [if_neg (by rw [h2];simp)] at hsu;refine Yn (nQ (Wm x r.visits k) (nth x.orders (nth r.visits k).order.toNat).load false (nth x.orders (nth r.visits k).order.toNat).load_c Za Za hrg) (Zc ?_);exact ⟨(k+1,o++ [Wm x r.visits (k+1)]),⟨Za,by grind⟩,Za,Weak.mk (by simp (disch:=omega) only [hsu,ZJ,ZC,ZG,XD,Zr,Zn,go_sem,seval])⟩
  ·have hkl:k=r.visits.length:=Za
   subst hkl;refine Zq (Weak.fz (o:=2) (by rfl)) (Zg [] _ _ _ _ (UX ?_));rw [QZ,<- ho];exact we
theorem uA (x:Inst) (r:Rte) (a:List Int) (htl:x.types.length<=1048576) (hty:0<=r.typ/\r.typ<(x.types.length:Int)) (ha:a.length<=1048576) (hc:(ZF x r).cap.length<=1048576) :
  ACalls Tryz.prog 254 [.p (qZ a),.ptr 0 0,.ptr 1 0] [Zi x,XA r] fun y H'=>y= .p (.bool (!V4 a (ZF x r).cap))/\H'= [Zi x,XA r]:=by
 have hti:r.typ.toNat<x.types.length:=Za
 refine Zf [] Tryz.func254 rfl Zc9 ?_;simp (disch:=omega) only [Tryz.f254,Zi,XA,go_sem,seval];refine (vS a (ZF x r).cap false (ZF x r).cap_c ha hc).use (Zc ?_);exact we
theorem nR (x:Inst) (r:Rte) (hx:InstOk x) (hl:r.visits.length<=1048576) (hty:0<=r.typ/\r.typ<(x.types.length:Int)) (h0:Xk x r.visits=0) :
  PC 231 [.p (Zv x),.p (Wd r)] (.int .i64 (if Qv x (ZF x r).cap r.visits=true then 0 else 17)):=by
 have hd:=QP hx;have htl:=hd.typ
 have hti:r.typ.toNat<x.types.length:=Za
 have hcp:(ZF x r).cap.length<=1048576:=by
  have hcap:=hx.types.2 _ hti;unfold UD at hcap;obtain ⟨⟨⟨⟨⟨⟨⟨⟨_,_⟩,_⟩,_⟩,hcap⟩,_⟩,_⟩,_⟩,_⟩:=hcap;simp only [VH,ZE,Zs,rng] at hcap;unfold ZF;omega
 have hll:(QZ x r.visits).length=r.visits.length+1:=by simp [QZ]
 have hvl:=(VY h0).len hd.ord
 have hall:(QZ x r.visits).any (fun a=> !V4 a (ZF x r).cap)= !Qv x (ZF x r).cap r.visits:=by
  grind [Qv,QZ]
 have e1: ¬r.typ<0:=Za
 have e2: ¬(x.types.length:Int)<=r.typ:=Za
 refine Ze Tryz.func231 rfl ZcN ?_;simp (disch:=omega) only [Tryz.f231,e1,e2,go_sem,seval];refine Yn (nT x r hx hl h0) (Zc ?_);refine (LH (QZ x r.visits) false 254 [.ptr 0 0,.ptr 1 0] [Zi x,XA r] (fun a=> !V4 a (ZF x r).cap) Za (by simp (disch:=omega) only [Zi,XA,go_sem,seval]) (by rfl) (fun a ha=>uA x r a htl hty ?_ hcp)).useH ?_
 ·obtain ⟨j,_,rfl⟩:=Xn.1 ha;rw [FH];have:=hd.dim;omega
 ·refine Am ?_;rw [hall];refine cD ?_ ?_<;>intro h1<;>simp (disch:=omega) only [Sh.out h1,go_sem,seval]
  ·grind
  grind
theorem Hs (l:List Int) (c:Bool) (hl:l.length<=1048576):ACalls Tryz.prog 94 [.p (.list c (l.map eI))] [] fun y H'=>y= .sl 0 0 l.length l.length/\H'= [.elems 1 (l.map eI)]:=by
 refine Zf [1] Tryz.func94 rfl Zkk ?_;simp (disch:=omega) only [Tryz.f94,go_sem,seval];refine Wa (FS (e:=3) (cl:=c) (xs:=l.map eI) Tryz.underlying34 (by rfl) Zb fun b hb=> ?_);refine Zg [] _ _ _ _ ?_;simp (disch:=omega) only [go_sem,seval];refine cD ?_ ?_<;>intro h<;>simp (disch:=omega) only [Sh.out h,go_sem,seval]
 ·have:l= []:=by simpa using hb h
  subst this;exact ⟨_,_,Weak.nil 0 1 rfl Zb,rfl,rfl⟩
 ·refine Zg [] _ _ _ _ ?_;simp (disch:=omega) only [go_sem,seval];exact we
theorem Aw {P:Program} {e:TypeId} {k:Nat} {cs:List PV} {kk:IntKind} {n:Int} {x:PV} (h0:0<=n) (h1:n<k) (hx:apart P e cs n.toNat=some x) (ht:Y8 P e=some 1):MW P (some (.array k e)) (.p (.agg cs)) (.p (.int kk n))=some (.p x):=by
 simp_all [MW]
def Zio (s:Sco):PV:= .agg [.int .i64 s.cost,.int .i64 s.moved,.int .i64 s.other,.int .i64 s.work]
@[go_sem] theorem Zms (s:Sco):Zio s= .agg [.int .i64 s.cost,.int .i64 s.moved,.int .i64 s.other,.int .i64 s.work]:=Zl rfl rfl
theorem nX (s:Sco):PC 201 [.p (Bl s)] (Zio s):=by
 refine Zf [] Tryz.func201 rfl Zcx ?_;simp (disch:=omega) only [Tryz.f201,go_sem,seval];exact we
def Yp (a b:Sco):Sco:=⟨a.cost+b.cost,a.moved+b.moved,a.other+b.other,a.work+b.work⟩
def scoR (B:Int) (s:Sco):Prop:=(-B<=s.cost/\s.cost<=B)/\(-B<=s.moved/\s.moved<=B)/\(-B<=s.other/\s.other<=B)/\(-B<=s.work/\s.work<=B)
def Cn (s:Sco):AM.Obj:= .cells [.p (.int .i64 s.cost),.p (.int .i64 s.moved),.p (.int .i64 s.other),.p (.int .i64 s.work)]
def Xm (s:Sco):Int×Int:=if s.cost<0\/s.moved<0\/s.other<0\/s.work<0 then (0,2) else if 1073741824<s.cost\/16<=s.moved\/16<=s.other\/65536<=s.work then (0,4) else (((s.cost*16+s.moved)*16+s.other)*65536+s.work,0)
theorem Iz (s:Sco) (hs:scoR 1152921504606846976 s):PT 168 [.p (Bl s)] [.p (.int .i64 (Xm s).1),.p (.int .i64 (Xm s).2)]:=by
 obtain ⟨a1,a2,a3,a4⟩:=hs;refine Zf [] Tryz.func168 rfl Zb7 ?_;simp (disch:=omega) only [Tryz.f168,go_sem,seval];refine (nX s).use (Zc ?_);refine Zk [1,9] (fun k:Nat=> [(10,.p (.int .i64 k))]) (fun _=> [Cn s,Cn s]) (fun k=>k<=4/\(0<k->0<=s.cost)/\(1<k->0<=s.moved)/\(2<k->0<=s.other)/\(3<k->0<=s.work)) (fun k=>4-k) 0 ⟨Za,Za,Za,Za,Za⟩ (Weak.mk ?_) ?_
 ·simp (disch:=omega) only [Cn,go_sem,seval]
 ·rintro k ⟨hk,k1,k2,k3,k4⟩;simp (disch:=omega) only [Cn,go_sem,seval];refine cD ?_ ?_<;>intro h1<;>simp (disch:=omega) only [Sh.out h1,go_sem,seval,↓reduceIte]
  ·have:k=0\/k=1\/k=2\/k=3:=Za
   rcases this with rfl | rfl | rfl | rfl
   ·rw [Aw (x:= .int .i64 s.cost) Za Za (by rfl) Zd];refine Zc ?_;refine ZK ?_ ?_<;>intro h2
    ·have e:Xm s=(0,2):=by simp_all [Xm]
     rw [e];exact we
    ·exact ⟨1,⟨Za,fun _=>Za,Za,Za,Za⟩,Za,wk⟩
   ·rw [Aw (x:= .int .i64 s.moved) Za Za (by rfl) Zd];refine Zc ?_;refine ZK ?_ ?_<;>intro h2
    ·have e:Xm s=(0,2):=by simp_all [Xm]
     rw [e];exact we
    ·exact ⟨2,⟨Za,fun _=>k1 Za,fun _=>Za,Za,Za⟩,Za,wk⟩
   ·rw [Aw (x:= .int .i64 s.other) Za Za (by rfl) Zd];refine Zc ?_;refine ZK ?_ ?_<;>intro h2
    ·have e:Xm s=(0,2):=by simp_all [Xm]
     rw [e];exact we
    ·exact ⟨3,⟨Za,fun _=>k1 Za,fun _=>k2 Za,fun _=>Za,Za⟩,Za,wk⟩
   ·rw [Aw (x:= .int .i64 s.work) Za Za (by rfl) Zd];refine Zc ?_;refine ZK ?_ ?_<;>intro h2
    ·have e:Xm s=(0,2):=by simp_all [Xm]
     rw [e];exact we
    ·exact ⟨4,⟨Za,fun _=>k1 Za,fun _=>k2 Za,fun _=>k3 Za,fun _=>Za⟩,Za,wk⟩
  ·have hk4:k=4:=Za
   subst hk4;have g1:=k1 Za;have g2:=k2 Za;have g3:=k3 Za;have g4:=k4 Za
   have n1: ¬(s.cost<0\/s.moved<0\/s.other<0\/s.work<0):=Za
   have bad:(1073741824<s.cost\/16<=s.moved\/16<=s.other\/65536<=s.work)->Xm s=(0,4):=fun h=>by simp_all [Xm]
   refine gF ?_ ?_<;>intro h2<;>simp (disch:=omega) only [Sh.out h2,go_sem,seval,↓reduceIte]
   ·rw [bad Za];exact we
   ·refine gF ?_ ?_<;>intro h3<;>simp (disch:=omega) only [Sh.out h3,go_sem,seval,↓reduceIte]
    ·rw [bad Za];exact we
    ·refine gF ?_ ?_<;>intro h4<;>simp (disch:=omega) only [Sh.out h4,go_sem,seval,↓reduceIte]
     ·rw [bad Za];exact we
     ·refine cD ?_ ?_<;>intro h5<;>simp (disch:=omega) only [Sh.out h5,go_sem,seval,↓reduceIte]
      ·rw [bad Za];exact we
      ·have e:Xm s=(((s.cost*16+s.moved)*16+s.other)*65536+s.work,0):=by simp_all [Xm,if_neg]
       rw [e];exact we
def unsF (x:Inst) (i:Int):Sco×Int :=
 if i<0\/(x.orders.length:Int)<=i then (zSco,2)
 else if (nth x.orders i.toNat).off=true then (zSco,9)
 else if (nth x.orders i.toNat).penalty= -1 then (zSco,23)
 else (⟨(nth x.orders i.toNat).penalty,if (nth x.orders i.toNat).now= -1 then 0 else 1,0,0⟩,0)
theorem Ou (x:Inst) (i:Int) (ho:x.orders.length<=1048576):PT 167 [.p (Zv x),.p (.int .i64 i)] [.p (Bl (unsF x i).1),.p (.int .i64 (unsF x i).2)]:=by
 refine Zf [] Tryz.func167 rfl Zb6 ?_;simp (disch:=omega) only [Tryz.f167,go_sem,seval];refine gF ?_ ?_<;>intro h1<;>simp (disch:=omega) only [Sh.out h1,go_sem,seval,↓reduceIte]
 ·have e:unsF x i=(zSco,2):=by simp_all [unsF]
  rw [e];exact we (by simp (disch:=omega) only [zSco,go_sem,seval])
 ·refine cD ?_ ?_<;>intro h2<;>simp (disch:=omega) only [Sh.out h2,go_sem,seval,↓reduceIte]
  ·have e:unsF x i=(zSco,2):=by simp_all [unsF]
   rw [e];exact we (by simp (disch:=omega) only [zSco,go_sem,seval])
  ·have hi:i.toNat<x.orders.length:=Za
   have n1: ¬(i<0\/(x.orders.length:Int)<=i):=Za
   refine cD ?_ ?_<;>intro h3<;>simp (disch:=omega) only [Sh.out h3,go_sem,seval,↓reduceIte]
   ·have e:unsF x i=(zSco,9):=by simp_all [unsF]
    rw [e];exact we (by simp (disch:=omega) only [zSco,go_sem,seval])
   ·have h3': ¬(nth x.orders i.toNat).off=true:=by rw [h3];simp
    refine cD ?_ ?_<;>intro h4<;>simp (disch:=omega) only [Sh.out h4,go_sem,seval,↓reduceIte]
    ·have e:unsF x i=(zSco,23):=by simp_all [unsF]
     rw [e];exact we (by simp (disch:=omega) only [zSco,go_sem,seval])
    ·refine cD ?_ ?_<;>intro h5<;>simp (disch:=omega) only [Sh.out h5,go_sem,seval,↓reduceIte]
     ·have e:unsF x i=(⟨(nth x.orders i.toNat).penalty,1,0,0⟩,0):=by simp_all [unsF]
      rw [e];exact we
     ·have h5':(nth x.orders i.toNat).now= -1:=Za
      have e:unsF x i=(⟨(nth x.orders i.toNat).penalty,0,0,0⟩,0):=by simp_all [unsF]
      rw [e];exact we
theorem Dx (x:Inst) (i:Int) (ho:x.orders.length<=1048576):PT 56 [.p (Zv x),.p (.int .i64 i)] [.p (Bl (unsF x i).1),.p (.int .i64 (unsF x i).2)]:=by
 refine Zf [] Tryz.func56 rfl ZjQ ?_;simp (disch:=omega) only [Tryz.f56,go_sem,seval];refine gF ?_ ?_<;>intro h1<;>simp (disch:=omega) only [Sh.out h1,go_sem,seval,↓reduceIte]
 ·have e:unsF x i=(zSco,2):=by simp_all [unsF]
  rw [e];exact we (by simp (disch:=omega) only [zSco,go_sem,seval])
 ·refine cD ?_ ?_<;>intro h2<;>simp (disch:=omega) only [Sh.out h2,go_sem,seval,↓reduceIte]
  ·have e:unsF x i=(zSco,2):=by simp_all [unsF]
   rw [e];exact we (by simp (disch:=omega) only [zSco,go_sem,seval])
  ·have hi:i.toNat<x.orders.length:=Za
   have n1: ¬(i<0\/(x.orders.length:Int)<=i):=Za
   refine cD ?_ ?_<;>intro h3<;>simp (disch:=omega) only [Sh.out h3,go_sem,seval,↓reduceIte]
   ·have e:unsF x i=(zSco,9):=by simp_all [unsF]
    rw [e];exact we (by simp (disch:=omega) only [zSco,go_sem,seval])
   ·have h3': ¬(nth x.orders i.toNat).off=true:=by rw [h3];simp
    refine cD ?_ ?_<;>intro h4<;>simp (disch:=omega) only [Sh.out h4,go_sem,seval,↓reduceIte]
    ·have e:unsF x i=(zSco,23):=by simp_all [unsF]
     rw [e];exact we (by simp (disch:=omega) only [zSco,go_sem,seval])
    ·refine cD ?_ ?_<;>intro h5<;>simp (disch:=omega) only [Sh.out h5,go_sem,seval,↓reduceIte]
     ·have e:unsF x i=(⟨(nth x.orders i.toNat).penalty,1,0,0⟩,0):=by simp_all [unsF]
      rw [e];exact we
     ·have h5':(nth x.orders i.toNat).now= -1:=Za
      have e:unsF x i=(⟨(nth x.orders i.toNat).penalty,0,0,0⟩,0):=by simp_all [unsF]
      rw [e];exact we
theorem Lb (a b:Sco) (ha:scoR 1152921504606846976 a) (hb:scoR 1152921504606846976 b):PC 55 [.p (Bl a),.p (Bl b)] (Bl (Yp a b)):=by
 obtain ⟨a1,a2,a3,a4⟩:=ha;obtain ⟨b1,b2,b3,b4⟩:=hb;refine Zf [] Tryz.func55 rfl ZjP ?_;simp (disch:=omega) only [Tryz.f55,go_sem,seval];exact we (by simp (disch:=omega) only [Yp,go_sem,seval])
def Uj (s:Sco):Bool:=decide (0<=s.cost)&&decide (s.cost<=1073741824)&&decide (0<=s.moved)&&decide (s.moved<=15)&&decide (0<=s.other)&&decide (s.other<=15)&&decide (0<=s.work)&&decide (s.work<=65535)
theorem dU (s:Sco):PC 57 [.p (Bl s)] (.bool (Uj s)):=by
 refine Ze Tryz.func57 rfl ZjR ?_;simp (disch:=omega) only [Tryz.f57,go_sem,seval];refine gT ?_ ?_<;>intro h1<;>simp (disch:=omega) only [Sh.out h1,go_sem,seval,↓reduceIte]
 ·refine gT ?_ ?_<;>intro h2<;>simp (disch:=omega) only [Sh.out h2,go_sem,seval,↓reduceIte]
  ·refine gT ?_ ?_<;>intro h3<;>simp (disch:=omega) only [Sh.out h3,go_sem,seval,↓reduceIte]
   ·refine gT ?_ ?_<;>intro h4<;>simp (disch:=omega) only [Sh.out h4,go_sem,seval,↓reduceIte]
    ·refine gT ?_ ?_<;>intro h5<;>simp (disch:=omega) only [Sh.out h5,go_sem,seval,↓reduceIte]
     ·refine gT ?_ ?_<;>intro h6<;>simp (disch:=omega) only [Sh.out h6,go_sem,seval,↓reduceIte]
      ·refine gT ?_ ?_<;>intro h7<;>simp (disch:=omega) only [Sh.out h7,go_sem,seval,↓reduceIte]
       ·grind [Uj]
       grind [Uj]
      grind [Uj]
     grind [Uj]
    grind [Uj]
   grind [Uj]
  grind [Uj]
 ·simp [Uj,h1]
theorem B9 (s:Sco) (hs:scoR 1152921504606846976 s):PT 33 [.p (Bl s)] [.p (.int .i64 (Xm s).1),.p (.int .i64 (Xm s).2)]:=by
 obtain ⟨a1,a2,a3,a4⟩:=hs
 have bad:(s.cost<0\/s.moved<0\/s.other<0\/s.work<0)->Xm s=(0,2):=fun h=>by rw [Xm,if_pos h]
 refine Zf [] Tryz.func33 rfl Zjx ?_;simp (disch:=omega) only [Tryz.f33,go_sem,seval];refine gF ?_ ?_<;>intro h1<;>simp (disch:=omega) only [Sh.out h1,go_sem,seval,↓reduceIte]
 ·rw [bad Za];exact we
 ·refine gF ?_ ?_<;>intro h2<;>simp (disch:=omega) only [Sh.out h2,go_sem,seval,↓reduceIte]
  ·rw [bad Za];exact we
  ·refine gF ?_ ?_<;>intro h3<;>simp (disch:=omega) only [Sh.out h3,go_sem,seval,↓reduceIte]
   ·rw [bad Za];exact we
   ·refine cD ?_ ?_<;>intro h4<;>simp (disch:=omega) only [Sh.out h4,go_sem,seval,↓reduceIte]
    ·rw [bad Za];exact we
    ·have n1: ¬(s.cost<0\/s.moved<0\/s.other<0\/s.work<0):=Za
     refine (dU s).use (Zc ?_);refine cD ?_ ?_<;>intro h5<;>simp (disch:=omega) only [Sh.out h5,go_sem,seval,↓reduceIte]
     ·have e:Xm s=(0,4):=by
       have h6: ¬Uj s=true:=by grind
       rw [Xm,if_neg n1,if_pos];refine Kj fun h7=>h6 ?_;simp [Uj];omega
      rw [e];exact we
     ·have h6:Uj s=true:=by grind
      simp [Uj] at h6
      have e:Xm s=(((s.cost*16+s.moved)*16+s.other)*65536+s.work,0):=by rw [Xm,if_neg n1,if_neg Za]
      rw [e];refine Zc ?_;exact we
def Vf (s:Sco):Prop:=0<=s.cost/\0<=s.moved/\0<=s.other/\0<=s.work
theorem Ae {a b:Sco} (ha:Vf a) (hb:Vf b):Vf (Yp a b):=by
 obtain ⟨a1,a2,a3,a4⟩:=ha;obtain ⟨b1,b2,b3,b4⟩:=hb;exact ⟨by show 0<=a.cost+b.cost;omega,by show 0<=a.moved+b.moved;omega,by show 0<=a.other+b.other;omega,by show 0<=a.work+b.work;omega⟩
theorem JU {s:Sco} (hs:Vf s):(Xm s).2=0↔s.cost<=1073741824/\s.moved<16/\s.other<16/\s.work<65536:=by
 obtain ⟨a1,a2,a3,a4⟩:=hs;unfold Xm
 grind
theorem O9 {s:Sco} (hs:Vf s) (h:(Xm s).2=0):(Xm s).1=((s.cost*16+s.moved)*16+s.other)*65536+s.work:=by
 have h:=(JU hs).1 h;obtain ⟨a1,a2,a3,a4⟩:=hs
 simp_all [Xm,if_neg]
theorem xR {a b:Sco} (ha:Vf a) (hb:Vf b) (h:(Xm (Yp a b)).2=0):(Xm a).2=0/\(Xm b).2=0/\(Xm (Yp a b)).1=(Xm a).1+(Xm b).1:=by
 have h1:=(JU (Ae ha hb)).1 h;have hv:=O9 (Ae ha hb) h;have hA:(Xm a).2=0:=(JU ha).2 (by simp only [Yp] at h1;obtain ⟨b1,b2,b3,b4⟩:=hb;omega)
 grind [Xm,JU,Yp]
theorem Hg {α:Type} {f:α->Sco} : ∀(l:List α) (s:Sco),(∀a∈l,Vf (f a))->Vf s->(Xm (l.foldl (fun s a=>Yp s (f a)) s)).2=0 ->
  (Xm s).2=0/\(∀a∈l,(Xm (f a)).2=0)/\(Xm (l.foldl (fun s a=>Yp s (f a)) s)).1=(Xm s).1+(l.map fun a=>(Xm (f a)).1).sum
 | [],s,_,_,h=>⟨h,Zb,Zb⟩
 | a::l,s,hf,hs,h=>by
  rw [XO] at h ⊢;have ha:=hf a Zb;obtain ⟨g1,g2,g3⟩:=Hg l (Yp s (f a)) (fun b hb=>hf b (XL _ hb)) (Ae hs ha) h;obtain ⟨k1,k2,k3⟩:=xR hs ha g1
  grind
theorem Dw {x:Inst} (hx:InstOk x) (i:Int):scoR 1073741824 (unsF x i).1:=by
 unfold unsF
 split
 ·simp [scoR,zSco]
 ·split
  ·simp [scoR,zSco]
  ·split
   ·simp [scoR,zSco]
   ·have ha:=(hx.orders.2 i.toNat Za).arg;simp only [argOk,rng,ZE,Zs] at ha
    grind [scoR]
theorem GW {a b:Sco} {B C:Int} (ha:scoR B a) (hb:scoR C b):scoR (B+C) (Yp a b):=by
 grind [scoR,Yp]
theorem Yu {a:Sco} {B C:Int} (h:B<=C) (ha:scoR B a):scoR C a:=by
 grind [scoR]
def Ny (x:Inst) (t:Typ) (r:Rte) (c:Bool) (sp:List Stp):PV:= .agg [.list x.net.places_c (x.net.places.map eS),.list x.net.arcs_c (x.net.arcs.map V2),.list x.types_c (x.types.map X8),.list x.orders_c (x.orders.map Yo),.list x.apart_c (x.apart.map eP),.list x.before_c (x.before.map eP),.str t.name,.int .i64 t.count,.int .i64 t.src,.int .i64 t.dst,.list t.cap_c (t.cap.map eI),.int .i64 t.skills,.int .i64 t.prof,.int .i64 t.opn,.int .i64 t.cls,.int .i64 t.drive,.int .i64 t.rest,.int .i64 t.fixed,.int .i64 t.perMile,.int .i64 t.perTick,.int .i64 r.typ,.int .i64 r.start,.list r.rests_c (r.rests.map eB),.list r.visits_c (r.visits.map Z7),.list c (sp.map F4)]
@[go_sem] theorem ZmL (x:Inst) (t:Typ) (r:Rte) (c:Bool) (sp:List Stp):Ny x t r c sp= .agg [.list x.net.places_c (x.net.places.map eS),.list x.net.arcs_c (x.net.arcs.map V2),.list x.types_c (x.types.map X8),.list x.orders_c (x.orders.map Yo),.list x.apart_c (x.apart.map eP),.list x.before_c (x.before.map eP),.str t.name,.int .i64 t.count,.int .i64 t.src,.int .i64 t.dst,.list t.cap_c (t.cap.map eI),.int .i64 t.skills,.int .i64 t.prof,.int .i64 t.opn,.int .i64 t.cls,.int .i64 t.drive,.int .i64 t.rest,.int .i64 t.fixed,.int .i64 t.perMile,.int .i64 t.perTick,.int .i64 r.typ,.int .i64 r.start,.list r.rests_c (r.rests.map eB),.list r.visits_c (r.visits.map Z7),.list c (sp.map F4)]:=Zl rfl rfl
def ZeA (x:Inst) (t:Typ) (r:Rte):List V:= [.p (.list x.net.places_c (x.net.places.map eS)),.p (.list x.net.arcs_c (x.net.arcs.map V2)),.p (.list x.types_c (x.types.map X8)),.p (.list x.orders_c (x.orders.map Yo)),.p (.list x.apart_c (x.apart.map eP)),.p (.list x.before_c (x.before.map eP)),.p (.str t.name),.p (.int .i64 t.count),.p (.int .i64 t.src),.p (.int .i64 t.dst),.p (.list t.cap_c (t.cap.map eI)),.p (.int .i64 t.skills),.p (.int .i64 t.prof),.p (.int .i64 t.opn),.p (.int .i64 t.cls),.p (.int .i64 t.drive),.p (.int .i64 t.rest),.p (.int .i64 t.fixed),.p (.int .i64 t.perMile),.p (.int .i64 t.perTick),.p (.int .i64 r.typ),.p (.int .i64 r.start),.p (.list r.rests_c (r.rests.map eB)),.p (.list r.visits_c (r.visits.map Z7))]
def Wk (x:Inst) (t:Typ) (r:Rte) (c:Bool) (sp:List Stp):AM.Obj:= .cells [.p (.list x.net.places_c (x.net.places.map eS)),.p (.list x.net.arcs_c (x.net.arcs.map V2)),.p (.list x.types_c (x.types.map X8)),.p (.list x.orders_c (x.orders.map Yo)),.p (.list x.apart_c (x.apart.map eP)),.p (.list x.before_c (x.before.map eP)),.p (.str t.name),.p (.int .i64 t.count),.p (.int .i64 t.src),.p (.int .i64 t.dst),.p (.list t.cap_c (t.cap.map eI)),.p (.int .i64 t.skills),.p (.int .i64 t.prof),.p (.int .i64 t.opn),.p (.int .i64 t.cls),.p (.int .i64 t.drive),.p (.int .i64 t.rest),.p (.int .i64 t.fixed),.p (.int .i64 t.perMile),.p (.int .i64 t.perTick),.p (.int .i64 r.typ),.p (.int .i64 r.start),.p (.list r.rests_c (r.rests.map eB)),.p (.list r.visits_c (r.visits.map Z7)),.p (.list c (sp.map F4))]
def ZeM : AM.Obj:= .cells [.p (.list true []),.p (.list true []),.p (.list true []),.p (.list true []),.p (.list true []),.p (.list true []),.p (.str []),.p (.int .i64 0),.p (.int .i64 0),.p (.int .i64 0),.p (.list true []),.p (.int .i64 0),.p (.int .i64 0),.p (.int .i64 0),.p (.int .i64 0),.p (.int .i64 0),.p (.int .i64 0),.p (.int .i64 0),.p (.int .i64 0),.p (.int .i64 0),.p (.int .i64 0),.p (.int .i64 0),.p (.list true []),.p (.list true []),.p (.list true [])]
def J3 (L:Lab):PV:= .agg [.int .i64 L.ready,.int .i64 L.since,.bool L.she.rest,.int .i64 L.she.dep,.list L.she.times_c (L.she.times.map eTim),.int .i64 L.she.fin,.int .i64 L.she.miles]
@[go_sem] theorem ZmB (L:Lab):J3 L= .agg [.int .i64 L.ready,.int .i64 L.since,.bool L.she.rest,.int .i64 L.she.dep,.list L.she.times_c (L.she.times.map eTim),.int .i64 L.she.fin,.int .i64 L.she.miles]:=Zl rfl rfl
@[go_sem] theorem Zfg (l:List Lab):Ci 7 (l.map J3)=true:=Cj (f:=J3) (S:=7) (fun _=>rfl) l
def W7 (L:Lab):AM.Obj:= .cells [.p (.int .i64 L.ready),.p (.int .i64 L.since),.p (.bool L.she.rest),.p (.int .i64 L.she.dep),.p (.list L.she.times_c (L.she.times.map eTim)),.p (.int .i64 L.she.fin),.p (.int .i64 L.she.miles)]
theorem jI (l:List Tim) (c:Bool) (hl:l.length<=1048576):ACalls Tryz.prog 289 [.p (.list c (l.map eTim))] [] fun x H'=>x= .sl 0 0 l.length l.length/\H'= [.elems 4 (l.map eTim)]:=by
 suffices hh:ACalls Tryz.prog 289 [.p (.list c (l.map eTim))] [] fun x H'=> ∃m:List Tim,m=l/\x= .sl 0 0 m.length m.length/\H'= [.elems 4 (m.map eTim)] by
  grind
 refine Zf [1] Tryz.func289 rfl ZdH ?_;simp (disch:=omega) only [Tryz.f289,go_sem,seval];refine Wa (Wa (sK 1 rfl rfl ?_));refine ⟨_,vH (e:=299) rfl Tryz.underlying116 rfl (fun _=>rfl),?_⟩;rintro _ ⟨b,rfl,hb⟩;refine Zc ?_;refine Zg [] _ _ _ _ ?_
 cases b with
 | true =>
  have hn:l= []:=by simp_all
  subst hn;refine Zc ?_;exact ⟨_,_,Weak.ofNil 0 4 rfl Zb (wk),[],rfl,rfl,rfl⟩
 | false =>
  refine Zc ?_;refine Zg [] _ _ _ _ (Zc ?_);exact ⟨.sl 0 0 l.length l.length,[.elems 4 (l.map eTim)],wk,l,rfl,rfl,rfl⟩
theorem HR (x:Inst) (t:Typ) (r:Rte) (c:Bool) (sp:List Stp):PC 257 [.p (Ny x t r c sp)] (J3 (labF t r.start)):=by
 refine Zf [] Tryz.func257 rfl Zdb ?_;simp (disch:=omega) only [Tryz.f257,go_sem,seval];exact we (by simp (disch:=omega) only [labF,zShe,Zn,go_sem,seval])
theorem oI (x:Inst) (t:Typ) (r:Rte) (c:Bool) (sp:List Stp) (k:Nat) (hk:k<=sp.length) (hl:sp.length<=1048576):PC 290 [.p (Ny x t r c sp),.p (.int .i64 (k:Nat))] (.int .i64 (Ui t sp k)):=by
 refine Ze Tryz.func290 rfl ZdI ?_;simp (disch:=omega) only [Tryz.f290,go_sem,seval];refine cD ?_ ?_<;>intro h<;>simp (disch:=omega) only [Sh.out h,go_sem,seval,↓reduceIte]
 ·simp_all [Ui]
 simp_all [Ui]
theorem Zeb (x:Inst) (r:Rte) (hx:InstOk x) (hty:0<=r.typ/\r.typ<(x.types.length:Int)) (h0:Xk x r.visits=0) (hs:0<=r.start/\r.start<=4096) :
  PT 256 [.p (Zv x),.p (Wd r)] [.p (Ny x (ZF x r) r false (ZP x r.visits)),.p (.bool true)]:=by
 have hd:=QP hx;have hsq:=VY h0;have hol:=hd.ord;have htl:=hd.typ;have hvl:=hsq.len hol
 have e1: ¬r.typ<0:=Za
 have e2: ¬(x.types.length:Int)<=r.typ:=Za
 have e3: ¬r.start<0:=Za
 have e4: ¬ 4096<r.start:=Za
 have e5: ¬ 20<(r.visits.length:Int):=Za
 refine Zf [12] Tryz.func256 rfl mB ?_;simp (disch:=omega) only [Tryz.f256,e1,e2,e3,e4,e5,go_sem,seval];refine XJ [9] 10 mixed Zd Zd Zd Zb (Zc ?_);refine Z0 9 _ _ Zd (by refine Zc ?_;exact ⟨rfl,rfl⟩) (YN ?_);refine Zc ?_
 refine ZZ [12] [2,4,6,49,50] (fun q:Nat×List Stp=> [(51,.p (.int .i64 q.1))])
  (fun q=> [Zi x,XA r,ZeM,.cells (ZeA x (ZF x r) r++ [.sl 4 0 q.2.length q.2.length]),.elems 4 (q.2.map F4)])
  (fun q=>q.1<=r.visits.length/\q.2=(ZP x r.visits).take q.1) (fun q=>r.visits.length-q.1) (0,[]) Zb ((Weak.nilC (o:=3) (j:=24) 4 rfl rfl Zb).trans (Weak.mk ?_)) ?_
 ·simp (disch:=omega) only [Zi,XA,ZeM,ZeA,ZF,Zn,ZG,Xa,Z1,ZO,ZD,go_sem,seval]
 ·rintro ⟨k,o⟩ ⟨hk,ho⟩;simp only at hk ho
  have hol2:o.length=k:=by grind [Yi]
  simp (disch:=omega) only [Zi,XA,ZeM,ZeA,go_sem,seval];refine cD ?_ ?_<;>intro h1<;>simp (disch:=omega) only [Sh.out h1,go_sem,seval,↓reduceIte]
  ·have hk2:k<r.visits.length:=Za
   have hvis:=hsq.vis (Zt hk2);simp only [As,ZE,Zs] at hvis
   have hsn:o++ [Xp x (nth r.visits k)]=(ZP x r.visits).take (k+1):=by
    rw [ho,XZ (by grind [Yi]),<- Zh,G5 hk2]
   have hnp: ¬(Xp x (nth r.visits k)).place<0:=Za
   refine Yn (Tt x (nth r.visits k) Za hvis.1 hvis.2) ?_;simp (disch:=omega) only [hnp,go_sem,seval];exact ⟨(k+1,o++ [Xp x (nth r.visits k)]),⟨Za,hsn⟩,Za,Weak.mk (by simp (disch:=omega) only [ZJ,ZC,ZG,XD,Zr,Zn,go_sem,seval])⟩
  ·have hkl:k=r.visits.length:=Za
   subst hkl
   have hso:o=ZP x r.visits:=by grind [Yi]
   subst hso;refine Zq (Weak.fz (o:=4) (by rfl)) (Zg [] _ _ _ _ (UX ?_));exact we
def OQ (rd sn:Int) (m:She):AM.Obj:= .cells [.p (.int .i64 rd),.p (.int .i64 sn),.p (.bool m.rest),.p (.int .i64 m.dep),.sl 4 0 m.times.length m.times.length,.p (.int .i64 m.fin),.p (.int .i64 m.miles)]
theorem BJ {P:Program} {H:List AM.Obj} {f ars} {a b d:PV} {B:V->Prop} {t} (h:ACalls P f ars [] fun x H'=>x= .tup [.p a,.p b,.p d]/\H'= []) (k:B (.tup [.p a,.p b,.p d])) (ha:Xv 0 ars=true:=by rfl) :
  bL (fun y=>ACalls P f ars H (Zu (Zu (fun x H'=>x=y/\H'=H) ⟨⟩) ⟨⟩)) (Zu B t) :=
 ⟨.tup [.p a,.p b,.p d],(h.behind ha H).mono fun x H' hq=>by
  obtain ⟨y,H1,⟨rfl,rfl⟩,rfl,rfl⟩:=hq
  simp [shV,shVs,Zu],k⟩
theorem ZdZ (x:Inst) (t:Typ) (r:Rte) (c:Bool) (sp:List Stp) (hok:TrpOk x t sp) (k:Nat) (hk:k<=sp.length) (hs1:0<sp.length) (L:Lab) (hL:LabR k L) (hlen:L.she.times.length=k) (hclip:0<k->L.she.times_c=false) (b:Bool) :
  PT 278 [.p (Ny x t r c sp),.p (J3 L),.p (.int .i64 (k:Nat)),.p (.bool b)] [.p (J3 (nxtF x t sp k L b).1),.p (.int .i64 (nxtF x t sp k L b).2)]:=by
 have hd:=KU hok hL b;have hsn:=G3 hL b;have hg:=LP hok hL b;have hmi:=hL.mil;have hrd:=hL.rdy;have hsnL:=hL.snc;have hsl:=hok.len;have hrst:=hok.rst;unfold nxtF;have hmm:= @K5 k (ZM t L b) b L.she;have hmf:= @It k (ZM t L b) b L.she;have hml:= @A0 k (ZM t L b) b L.she;refine Zf [2,7,14,31] Tryz.func278 rfl Zdw ?_;simp (disch:=omega) only [Tryz.f278,go_sem,seval];refine Xq (Zc ?_);refine ZI [2,3,4,5,8] (fun _:Unit=> [(10,.p (.int .i64 (ZM t L b))),(11,.p (.int .i64 (W1 L b)))]) (fun _=> [Wk x t r c sp,W7 L,W7 W3]) (fun _=>True) ?_ ?_
 ·refine Zc ?_;refine ZK ?_ ?_<;>intro h
  ·subst h;exact ⟨(),Weak.mk (by simp (disch:=omega) only [Wk,W7,W3,zShe,ZM,W1,Zn,go_sem,seval,↓reduceIte])⟩
  ·subst h;exact ⟨(),Weak.mk (by simp (disch:=omega) only [Wk,W7,W3,zShe,ZM,W1,Zn,go_sem,seval,↓reduceIte])⟩
 ·intro _ _;refine Zg [7,14,31] _ _ _ _ ?_;simp (disch:=omega) only [Wk,W7,W3,zShe,Zn,go_sem,seval];refine (jI L.she.times L.she.times_c Za).useF (Zc ?_)
  generalize hM:X4 k (ZM t L b) b L.she=M at *
  refine ZI [2,4,8,10,11,12] (fun _:Unit=> []) (fun _=> [Wk x t r c sp,W7 L,W7 W3,OQ 0 0 M,.elems 4 (M.times.map eTim)]) (fun _=>True) ?_ ?_
  ·refine Zc ?_;refine ZK ?_ ?_<;>intro h
   ·have hk0:k=0:=Za
    subst hk0
    have e:M= { L.she with rest:=b,dep:=ZM t L b } :=by rw [<- hM,X4,if_pos rfl]
    rw [e];exact ⟨(),Weak.mk (by simp (disch:=omega) only [Wk,W7,W3,zShe,OQ,Zn,go_sem,seval])⟩
   ·have e1:((k:Int)-1).toNat=k-1:=Za
    have hk1:k-1<L.she.times.length:=Za
    have SQ:(L.she.times.map eTim).set (k-1) (PV.agg [.int .i64 (nth L.she.times (k-1)).arr,.int .i64 (nth L.she.times (k-1)).beg,.int .i64 (nth L.she.times (k-1)).dep,.bool b])=(L.she.times.set (k-1) { nth L.she.times (k-1) with rest:=b }).map eTim:=by
     rw [U6];rfl
    have hn1:nth (L.she.times.set (k-1) { nth L.she.times (k-1) with rest:=b }) (k-1)= { nth L.she.times (k-1) with rest:=b } :=by
     grind [Zh]
    have hl1:(L.she.times.set (k-1) { nth L.she.times (k-1) with rest:=b }).length=L.she.times.length:=Zb
    have hMt:M.times=(L.she.times.set (k-1) { nth L.she.times (k-1) with rest:=b }).set (k-1) { nth (L.she.times.set (k-1) { nth L.she.times (k-1) with rest:=b }) (k-1) with dep:=ZM t L b } :=by
     rw [hn1,List.set_set,<- hM,X4,if_neg Za];rfl
    have hM2:M.rest=L.she.rest/\M.dep=L.she.dep:=by rw [<- hM,X4,if_neg Za];simp
    simp (disch:=first | omega | (simp only [ZC,ZG,ZJ,Z2,Xi,XN]<;>omega)) only [e1,go_sem,seval,↓reduceIte];rw [SQ]
    generalize L.she.times.set (k-1) { nth L.she.times (k-1) with rest:=b } =l1 at *
    simp (disch:=first | omega | (simp only [ZC,ZG,ZJ,Z2,Xi,XN]<;>omega)) only [e1,hl1,eq_self,Um,go_sem,seval];refine ⟨(),Weak.mk ?_⟩;simp (disch:=omega) only [Wk,W7,W3,zShe,OQ,Zn,hM2.1,hM2.2,hmm,hmf,hml,go_sem,seval];rw [hMt,U6]
    rfl
  ·intro _ _;refine Zg [14,31] _ _ _ _ ?_;simp (disch:=omega) only [Wk,W7,W3,zShe,OQ,Zn,go_sem,seval];refine ZI [2,4,8,10,11,12,13] (fun _:Unit=> [(14,.p (.int .i64 (Pi t sp k)))]) (fun _=> [Wk x t r c sp,W7 L,W7 W3,OQ 0 0 M,.elems 4 (M.times.map eTim)]) (fun _=>True) ?_ ?_
   ·refine Zc ?_;refine ZK ?_ ?_<;>intro h
    ·have e:Pi t sp k=(nth sp k).place:=by rw [Pi,if_neg Za]
     exact ⟨(),Weak.mk (by simp (disch:=omega) only [Wk,W7,W3,zShe,OQ,Zn,e,go_sem,seval])⟩
    ·have e:Pi t sp k=t.dst:=by rw [Pi,if_pos Za]
     exact ⟨(),Weak.mk (by simp (disch:=omega) only [Wk,W7,W3,zShe,OQ,Zn,e,go_sem,seval])⟩
   ·intro _ _;refine Zg [31] _ _ _ _ ?_;simp (disch:=omega) only [Wk,W7,W3,zShe,OQ,Zn,go_sem,seval];refine Xq (Zc ?_);refine Zo (oI x t r c sp k hk Za) (Zc ?_);refine BJ (zM x.net t.prof (Ui t sp k) (Pi t sp k) (ZM t L b) hok.net Za) (Zc ?_);have hG:W5 x.net t.prof (Ui t sp k) (Pi t sp k) (ZM t L b)=Y7 x t sp k (ZM t L b):=rfl;rw [hG];clear hG
    generalize Y7 x t sp k (ZM t L b)=g at *
    generalize ZM t L b=d at *
    generalize W1 L b=s at *
    refine cD ?_ ?_<;>intro h1<;>simp (disch:=omega) only [Sh.out h1,go_sem,seval,↓reduceIte]
    ·have e:WI t sp k g d s M=(W3,12):=by rw [WI,if_pos h1]
     rw [e];exact we (by simp (disch:=omega) only [W3,zShe,Zn,go_sem,seval])
    ·refine cD ?_ ?_<;>intro h2<;>simp (disch:=omega) only [Sh.out h2,go_sem,seval,↓reduceIte]
     ·refine cD ?_ ?_<;>intro h3<;>simp (disch:=omega) only [Sh.out h3,go_sem,seval,↓reduceIte]
      ·have e:WI t sp k g d s M=(W3,15):=by rw [WI,if_neg h1,if_pos Za,if_pos h3]
       rw [e];exact we (by simp (disch:=omega) only [W3,zShe,Zn,go_sem,seval])
      ·refine Zq (Weak.fz (o:=4) (by rfl)) (Zg [] _ _ _ _ (UX ?_));refine cD ?_ ?_<;>intro h4<;>simp (disch:=omega) only [Sh.out h4,go_sem,seval,↓reduceIte]
       ·have e:WI t sp k g d s M=(W3,16):=by rw [WI,if_neg h1,if_pos Za,if_neg h3,if_pos h4]
        rw [e];exact we (by simp (disch:=omega) only [W3,zShe,Zn,go_sem,seval])
       ·have e:WI t sp k g d s M=(⟨g.1,s+g.1-d,{ M with fin:=g.1,miles:=M.miles+g.2.1 }⟩,0):=by rw [WI,if_neg h1,if_pos Za,if_neg h3,if_neg h4]
        have hMc:M.times_c=false:=by
         rw [<- hM,X4,if_neg Za]
         grind
        rw [e];exact we (by simp (disch:=omega) only [hMc,go_sem,seval])
     ·have h2': ¬k=sp.length:=Za
      have hkl:k<sp.length:=Za
      have hstp:=hok.stp _ (ZL hkl);refine Yn (Sl (nth sp k) g.1) ?_;unfold FV
      by_cases h3:(nth sp k).cls<max g.1 (nth sp k).opn
      ·have e:WI t sp k g d s M=(W3,14):=by simp_all [WI]
       rw [e,if_pos h3];refine Zc ?_;exact we (by simp (disch:=omega) only [W3,zShe,Zn,go_sem,seval])
      ·rw [if_neg h3];refine Zc ?_;refine Zq (Weak.fz (o:=4) (by rfl)) (Zg [] _ _ _ _ (UX ?_));refine cD ?_ ?_<;>intro h4<;>simp (disch:=omega) only [Sh.out h4,go_sem,seval,↓reduceIte]
       ·have e:WI t sp k g d s M=(W3,16):=by simp_all [WI]
        rw [e];exact we (by simp (disch:=omega) only [W3,zShe,Zn,go_sem,seval])
       ·have e:WI t sp k g d s M=(⟨max g.1 (nth sp k).opn+(nth sp k).serv,s+g.1-d,{ M with times_c:=false,times:=M.times++ [⟨g.1,max g.1 (nth sp k).opn,0,false⟩],miles:=M.miles+g.2.1 }⟩,0):=by simp_all [WI,if_neg]
        rw [e];exact we
theorem cS {x t sp k L b} (hs:0<sp.length) (hc:0<k->L.she.times_c=false) (he:(nxtF x t sp k L b).2=0):(nxtF x t sp k L b).1.she.times_c=false:=by
 have hm:0<k->(X4 k (ZM t L b) b L.she).times_c=false:=fun h=>by rw [X4,if_neg Za];exact hc h
 unfold nxtF at he ⊢
 generalize Y7 x t sp k (ZM t L b)=g at *
 generalize ZM t L b=d at *
 generalize W1 L b=s at *
 generalize X4 k d b L.she=m at *
 unfold WI at he ⊢
 grind
structure LabO (n k:Nat) (L:Lab):Prop where
 rng:LabR k L
 len:k<=n->L.she.times.length=k
 clip:0<k->L.she.times_c=false
theorem Ij {x t sp k L b} (hok:TrpOk x t sp) (hs:0<sp.length) (hk:k<=sp.length) (h:LabO sp.length k L) (he:(nxtF x t sp k L b).2=0):LabO sp.length (k+1) (nxtF x t sp k L b).1 :=
 ⟨Me hok hk h.rng he,fun hk2=>Gz (h.len hk) he Za,fun _=>cS hs h.clip he⟩
theorem Ik {x t sp} (hok:TrpOk x t sp) {st:Int} (hst:0<=st/\st<=4096):LabO sp.length 0 (labF t st) :=
 ⟨⟨by have:=hok.opn;grind [labF],by simp [labF],by simp [labF,zShe]⟩,fun _=>rfl,fun h=>Za⟩
theorem Tm (x:Inst) (t:Typ) (r:Rte) (c:Bool) (sp:List Stp) (hok:TrpOk x t sp) (k:Nat) (hk:k<=sp.length) (hs1:0<sp.length) (L:Lab) (hL:LabO sp.length k L) (b:Bool) :
  PT 278 [.p (Ny x t r c sp),.p (J3 L),.p (.int .i64 (k:Nat)),.p (.bool b)] [.p (J3 (nxtF x t sp k L b).1),.p (.int .i64 (nxtF x t sp k L b).2)] :=
 ZdZ x t r c sp hok k hk hs1 L hL.rng (hL.len hk) hL.clip b
theorem ZkY (x:Inst) (t:Typ) (r:Rte) (c:Bool) (sp:List Stp) (hok:TrpOk x t sp) (hs1:0<sp.length) (hst:0<=r.start/\r.start<=4096) (bs:List Bool) (d:Bool) (hb:bs.length=sp.length+1) :
  PT 259 [.p (Ny x t r c sp),.p (.list d (bs.map eB))] [.p (F2 (Xd x t sp 0 (labF t r.start) bs).1.she),.p (.int .i64 (Xd x t sp 0 (labF t r.start) bs).2)]:=by
 have hsl:=hok.len;refine Zf [] Tryz.func259 rfl Zdd ?_;simp (disch:=omega) only [Tryz.f259,go_sem,seval];refine (HR x t r c sp).use (Zc ?_)
 refine Zk [2,4,6,13,14] (fun q:Nat×Lab=> [(15,.p (.int .i64 q.1))]) (fun q=> [Wk x t r c sp,.cells [.p (.bool false),.p (.int .i64 0),.p (.list true []),.p (.int .i64 0),.p (.int .i64 0)],W7 q.2])
  (fun q=>q.1<=bs.length/\Xd x t sp 0 (labF t r.start) bs=Xd x t sp q.1 q.2 (bs.drop q.1)/\LabO sp.length q.1 q.2) (fun q=>bs.length-q.1) (0,labF t r.start) ⟨Zb,Zb,Ik hok hst⟩ (Weak.mk ?_) ?_
 ·simp (disch:=omega) only [Wk,W7,go_sem,seval]
 ·rintro ⟨k,L⟩ ⟨hk,hrun,hL⟩;simp only at hk hrun hL;simp (disch:=omega) only [Wk,W7,go_sem,seval];refine cD ?_ ?_<;>intro h1<;>simp (disch:=omega) only [Sh.out h1,go_sem,seval,↓reduceIte]
  ·have hk2:k<bs.length:=Za
   have hdrop:bs.drop k=nth bs k::bs.drop (k+1):=by rw [Ud hk2,Zh hk2]
   rw [hdrop,Xd] at hrun;have cn:=Tm x t r c sp hok k Za hs1 L hL (nth bs k);have hL2:=Ij (x:=x) (t:=t) (b:=nth bs k) hok hs1 Za hL
   generalize nxtF x t sp k L (nth bs k)=N at *
   refine Yn cn (Zc ?_);refine ZK ?_ ?_<;>intro h2
   ·rw [hrun,if_neg h2];exact we (by simp (disch:=omega) only [W3,zShe,Zn,go_sem,seval])
   ·rw [if_pos Za] at hrun;exact ⟨(k+1,N.1),⟨Za,hrun,hL2 Za⟩,Za,wk⟩
  ·have hkl:k=bs.length:=Za
   subst hkl;rw [Qs,Xd] at hrun;rw [hrun];exact we
theorem sM (l m:Lab):PC 281 [.p (J3 l),.p (J3 m)] (.bool (Xe l m)):=by
 refine Ze Tryz.func281 rfl Zdz ?_;simp (disch:=omega) only [Tryz.f281,go_sem,seval];refine gT ?_ ?_<;>intro h<;>simp (disch:=omega) only [Sh.out h,go_sem,seval,↓reduceIte]
 ·simp [Xe,h]
 ·simp [Xe,h]
def gH (x:Inst) (t:Typ) (r:Rte) (c:Bool) (sp:List Stp) (o:List Lab) (f z:Lab):List AM.Obj:= [Wk x t r c sp,.dead,.elems 7 (o.map J3),W7 f,W7 z]
theorem uJ (x:Inst) (t:Typ) (r:Rte) (c:Bool) (sp:List Stp) (o:List Lab) (f z m:Lab):ACalls Tryz.prog 280 [.p (J3 m),.ptr 4 0] (gH x t r c sp o f z) fun y H'=>y= .p (.bool (Xe m z))/\H'=gH x t r c sp o f z:=by
 refine Zf [] Tryz.func280 rfl Zdy ?_;simp (disch:=omega) only [Tryz.f280,gH,Wk,W7,go_sem,seval];refine (sM m z).use (Zc ?_);exact we
theorem Rc (x:Inst) (t:Typ) (r:Rte) (c:Bool) (sp:List Stp) (o:List Lab) (f z:Lab) (hl:o.length<=2097152) :
  ACalls Tryz.prog 291 [.sl 2 0 o.length o.length,.fn (.func 280) [] [.ptr 4 0]] (gH x t r c sp o f z) fun y H'=>y= .p (.int .i64 (yV (fun m=>Xe m z) o))/\H'=gH x t r c sp o f z:=by
 refine Zf [] Tryz.func291 rfl ZdJ ?_;simp (disch:=omega) only [Tryz.f291,gH,Wk,W7,go_sem,seval];refine Zk [0,1,7] (fun k:Nat=> [(8,.p (.int .i64 k))]) (fun _=>gH x t r c sp o f z) (fun k=>k<=o.length/\ ∀j,j<k->Xe (nth o j) z=false) (fun k=>o.length-k) 0 Zb (Weak.mk ?_) ?_
 ·simp (disch:=omega) only [gH,Wk,W7,go_sem,seval,↓reduceIte]
 ·rintro k ⟨hk,hno⟩;simp (disch:=omega) only [gH,Wk,W7,go_sem,seval];refine cD ?_ ?_<;>intro h<;>simp (disch:=omega) only [Sh.out h,go_sem,seval,↓reduceIte]
  ·have hk2:k<o.length:=Za
   have hg:=uJ x t r c sp o f z (nth o k);simp (disch:=first | omega | (simp only [ZC,ZG,ZJ,Z2,Xi,XN]<;>omega)) only [U4 hk2,hk2,go_sem,seval,↓reduceIte];simp (disch:=omega) only [gH,Wk,W7,go_sem,seval] at hg;refine hg.useH (Zc ?_);refine cD ?_ ?_<;>intro h2<;>simp (disch:=omega) only [Sh.out h2,go_sem,seval,↓reduceIte]
   ·rw [lD (f:=fun m=>Xe m z) hk2 h2 hno];exact we
   ·exact ⟨k+1,⟨Za,Zp.2 ⟨hno,Za⟩⟩,Za,wk⟩
  ·have hkl:k=o.length:=Za
   subst hkl;rw [lF hno];exact we
theorem Hw (x:Inst) (t:Typ) (r:Rte) (c:Bool) (sp:List Stp) (o:List Lab) (f z:Lab) (hl:o.length<=2097152) :
  ACalls Tryz.prog 279 [.sl 2 0 o.length o.length,.fn (.func 280) [] [.ptr 4 0]] (gH x t r c sp o f z) fun y H'=>y= .p (.bool (o.any fun m=>Xe m z))/\H'=gH x t r c sp o f z:=by
 refine Zf [] Tryz.func279 rfl Zdx ?_;simp (disch:=omega) only [Tryz.f279,go_sem,seval];refine (Rc x t r c sp o f z hl).useH (Zc ?_);rw [lE];exact we (by simp (disch:=omega) only [gH,Wk,W7,go_sem,seval])
def aY (x:Inst) (t:Typ) (sp:List Stp) (r:List Bool) (k:Nat) (f:Lab) (bs:List Bool) (l:List Lab):List Lab:=bs.filterMap (XE x t sp k f)++Vx (XE x t sp) (UU r) k l
theorem Zbk (x:Inst) (t:Typ) (r:Rte) (c:Bool) (sp:List Stp) (hok:TrpOk x t sp) (hs1:0<sp.length) (k:Nat) (hk:k<=sp.length) (hrl:r.rests.length<=1048576) (l:List Lab) (d:Bool) (hl:l.length<=1048576) (hL: ∀L∈l,LabO sp.length k L) :
  PC 258 [.p (Ny x t r c sp),.p (.list d (l.map J3)),.p (.int .i64 (k:Nat))] (.list false ((Yf Xe [] (Vx (XE x t sp) (UU r.rests) k l)).map J3)):=by
 have hsl:=hok.len;refine Zf [2,16] Tryz.func258 rfl Zdc ?_;simp (disch:=omega) only [Tryz.f258,go_sem,seval];refine Zq (Weak.fz (o:=1) (by rfl)) (UX ?_);refine ZI [1,2,3] (fun cb:Bool=> [(7,.p (.list cb ((UU r.rests k).map eB)))]) (fun _=> [Wk x t r c sp,.dead]) (fun _=>True) ?_ ?_
 ·refine Zc ?_;refine ZK ?_ ?_<;>intro h
  ·have hk2:k<r.rests.length:=Za
   have e:UU r.rests k=(r.rests.take (k+1)).drop k:=by
    grind [UU,XZ]
   exact ⟨r.rests_c&&decide ((k:Int)+1=(r.rests.length:Int)),Weak.mk (by simp (disch:=omega) only [Wk,e,go_sem,seval])⟩
  ·have e:UU r.rests k= [false,true]:=by grind [UU]
   exact ⟨false,Weak.mk (by simp (disch:=omega) only [Wk,e,Zr,Zn,go_sem,seval])⟩
 ·intro cb _
  have hch:(UU r.rests k).length<=2:=by grind [UU]
  refine Zg [16] _ _ _ _ ?_;simp (disch:=omega) only [Wk,go_sem,seval]
  refine ZZ [16] [2,3,7,29,30] (fun q:Nat×List Lab=> [(8,.sl 2 0 q.2.length q.2.length),(31,.p (.int .i64 q.1))]) (fun q=> [Wk x t r c sp,.dead,.elems 7 (q.2.map J3)])
   (fun q=>q.1<=l.length/\Yf Xe [] (Vx (XE x t sp) (UU r.rests) k l)=Yf Xe q.2 (Vx (XE x t sp) (UU r.rests) k (l.drop q.1))/\q.2.length<=2*q.1) (fun q=>l.length-q.1) (0,[]) Zb (Weak.ofNil 8 7 rfl Zb (Weak.mk ?_)) ?_
  ·simp (disch:=omega) only [Wk,Zn,ZG,go_sem,seval]
  ·rintro ⟨i,o⟩ ⟨hi,hpr,hol⟩;simp only at hi hpr hol;simp (disch:=omega) only [Wk,go_sem,seval];refine cD ?_ ?_<;>intro h1<;>simp (disch:=omega) only [Sh.out h1,go_sem,seval,↓reduceIte]
   ·have hi2:i<l.length:=Za
    have hLi:=hL _ (ZL hi2)
    have hdrop:l.drop i=nth l i::l.drop (i+1):=by rw [Ud hi2,Zh hi2]
    rw [hdrop] at hpr;have hpr:Yf Xe [] (Vx (XE x t sp) (UU r.rests) k l)=Yf Xe o (aY x t sp r.rests k (nth l i) ((UU r.rests k).drop 0) (l.drop (i+1))):=hpr
    refine Zk [2,3,7,10,29,30,31,35,36] (fun q:Nat×List Lab=> [(8,.sl 2 0 q.2.length q.2.length),(37,.p (.int .i64 q.1))]) (fun q=> [Wk x t r c sp,.dead,.elems 7 (q.2.map J3),W7 (nth l i)])
     (fun q=>q.1<=(UU r.rests k).length/\Yf Xe [] (Vx (XE x t sp) (UU r.rests) k l)=Yf Xe q.2 (aY x t sp r.rests k (nth l i) ((UU r.rests k).drop q.1) (l.drop (i+1)))/\q.2.length<=2*i+q.1) (fun q=>(UU r.rests k).length-q.1) (0,o) ⟨Zb,hpr,hol⟩ (Weak.mk ?_) ?_
    ·simp (disch:=omega) only [Wk,W7,go_sem,seval]
    ·clear hpr hol;rintro ⟨j,o⟩ ⟨hj,hpr,hol⟩;simp only at hj hpr hol;simp (disch:=omega) only [Wk,W7,go_sem,seval];refine ZK ?_ ?_<;>intro h2
     ·have hj2:j<(UU r.rests k).length:=Za
      have hd2:(UU r.rests k).drop j=nth (UU r.rests k) j::(UU r.rests k).drop (j+1):=by rw [Ud hj2,Zh hj2]
      have cn:=Tm x t r c sp hok k hk hs1 (nth l i) hLi (nth (UU r.rests k) j);have ho2:XE x t sp k (nth l i) (nth (UU r.rests k) j)=if (nxtF x t sp k (nth l i) (nth (UU r.rests k) j)).2=0 then some (nxtF x t sp k (nth l i) (nth (UU r.rests k) j)).1 else none:=rfl;rw [hd2,aY,List.filterMap_cons,ho2] at hpr
      generalize nxtF x t sp k (nth l i) (nth (UU r.rests k) j)=N at *
      refine Yn cn (Zc ?_);refine Ql ?_ ?_<;>intro h3
      ·have hcl:=Hw x t r c sp o (nth l i) N.1 Za;simp (disch:=omega) only [gH,Wk,W7,go_sem,seval] at hcl;refine hcl.useH (Zc ?_);rw [if_pos h3] at hpr;have hpr:Yf Xe [] (Vx (XE x t sp) (UU r.rests) k l)=if (o.any fun m=>Xe m N.1)=true then Yf Xe o (aY x t sp r.rests k (nth l i) ((UU r.rests k).drop (j+1)) (l.drop (i+1))) else Yf Xe (o++ [N.1]) (aY x t sp r.rests k (nth l i) ((UU r.rests k).drop (j+1)) (l.drop (i+1))):=hpr;refine ZK ?_ ?_<;>intro h4
       ·rw [if_neg (by grind)] at hpr;exact ⟨(j+1,o++ [N.1]),⟨Za,hpr,by simp;omega⟩,Za,Weak.mk (by simp (disch:=omega) only [ZJ,ZC,ZG,XD,Zr,Zn,go_sem,seval])⟩
       ·rw [if_pos (by grind)] at hpr;exact ⟨(j+1,o),⟨Za,hpr,by grind⟩,Za,wk⟩
      ·rw [if_neg h3] at hpr;exact ⟨(j+1,o),⟨Za,hpr,by grind⟩,Za,wk⟩
     ·have hjl:j=(UU r.rests k).length:=Za
      subst hjl;rw [Qs,aY,List.filterMap_nil,ZD] at hpr;exact ⟨(i+1,o),⟨Za,hpr,by grind⟩,Za,wk⟩
   ·have hil:i=l.length:=Za
    subst hil;have e:Vx (XE x t sp) (UU r.rests) k []= []:=rfl;rw [Qs,e,Yf] at hpr;rw [hpr];refine Zq (Weak.fz (o:=2) (by rfl)) (Zg [] _ _ _ _ (UX ?_));exact we
def tG : PV:= .agg [.list true [],.list true [],.list true [],.list true [],.list true [],.list true [],.str [],.int .i64 0,.int .i64 0,.int .i64 0,.list true [],.int .i64 0,.int .i64 0,.int .i64 0,.int .i64 0,.int .i64 0,.int .i64 0,.int .i64 0,.int .i64 0,.int .i64 0,.int .i64 0,.int .i64 0,.list true [],.list true [],.list true []]
theorem vU (x:Inst) (r:Rte) (hty:0<=r.typ/\r.typ<(x.types.length:Int)) (htl:x.types.length<=1048576) (hvl:r.visits.length<=20) (hs: ¬(0<=r.start/\r.start<=4096)) :
  PT 256 [.p (Zv x),.p (Wd r)] [.p tG,.p (.bool false)]:=by
 have e1: ¬r.typ<0:=Za
 have e2: ¬(x.types.length:Int)<=r.typ:=Za
 refine Zf [] Tryz.func256 rfl mB ?_;simp (disch:=omega) only [Tryz.f256,e1,e2,go_sem,seval];refine gF ?_ ?_<;>intro h1<;>simp (disch:=omega) only [Sh.out h1,go_sem,seval,↓reduceIte]
 ·exact we (by simp (disch:=omega) only [tG,go_sem,seval])
 ·refine gF ?_ ?_<;>intro h2<;>simp (disch:=omega) only [Sh.out h2,go_sem,seval,↓reduceIte]
  ·exact we (by simp (disch:=omega) only [tG,go_sem,seval])
  ·omega
theorem OB {x t sp} : ∀(bs:List Bool) (k:Nat) (L:Lab),¬(Xd x t sp k L bs).2=0->(Xd x t sp k L bs).1=W3
 | [],k,L,h=>by simp [Xd] at h
 | b::bs,k,L,h=>by
  rw [Xd] at h ⊢
  split
  ·rename_i c;rw [if_pos c] at h;exact OB bs (k+1) _ h
  ·rfl
theorem bQ (n:Nat):List.replicate n false∈YY (List.replicate n false):=by
 rw [fromB_next];simp
theorem kX {l:List Lab} (h:Vb Wn none l=none):l= []:=by
 cases l with
 | nil=>rfl
 | cons a l =>
  obtain ⟨z,hz,_⟩:=VJ (fin:=Wn) l a;have:Vb Wn none (a::l)=Vb Wn (some a) l:=rfl
  grind
theorem aO {x t sp} {st:Int} {r:List Bool} (h:Vb Wn none ((XH r (sp.length+1)).filterMap (Wi (XE x t sp) 0 (labF t st)))=none): ¬(Xd x t sp 0 (labF t st) (YT r (sp.length+1))).2=0:=fun h0=>by
 have h1:=kX h;have h2:YT r (sp.length+1)∈XH r (sp.length+1):=Xn.2 ⟨_,bQ _,rfl⟩
 simp_all [YD]
theorem PI {x t sp} {st:Int} {r:List Bool} (hr:r.length<=sp.length+1) (h:Vb Wn none (KA Xe (XE x t sp) (UU r) (sp.length+1) 0 [labF t st])=none): ¬(Xd x t sp 0 (labF t st) (YT r (sp.length+1))).2=0 :=
 aO (by rw [Il,VV,H6 r _ hr] at h;exact h)
def Jz (x:Inst) (r:Rte):She×Int:=if 0<=r.start/\r.start<=4096/\r.rests.length<=r.visits.length+1 then XB x r else (zShe,2)
theorem iT {x t sp} {ch:Nat->List Bool} {k:Nat} {l:List Lab} (hok:TrpOk x t sp) (hs:0<sp.length) (hk:k<=sp.length) (h: ∀L∈l,LabO sp.length k L): ∀L∈Yf Xe [] (Vx (XE x t sp) ch k l),LabO sp.length (k+1) L:=fun L hL=>by
 have h1:=A8 Xe _ _ L hL;rw [ZD] at h1;obtain ⟨a,ha,hb⟩:=XS.1 h1
 grind [XE,Ij]
theorem D4 : ∀(c out:List Lab),(Yf Xe out c).length<=out.length+c.length
 | [],out=>by simp [Yf]
 | x::c,out=>by
  rw [Yf]
  split
  ·have:=D4 c out;simp;omega
  ·have:=D4 c (out++ [x]);simp at this ⊢;omega
theorem HT {x t sp} {r:List Bool} {k:Nat} : ∀l:List Lab,(Vx (XE x t sp) (UU r) k l).length<=2*l.length
 | []=>by simp [Vx]
 | a::l=>by
  have ih:=HT (x:=x) (t:=t) (sp:=sp) (r:=r) (k:=k) l;have h1:(Vx (XE x t sp) (UU r) k (a::l))=(UU r k).filterMap (XE x t sp k a)++Vx (XE x t sp) (UU r) k l:=rfl
  grind [UU]
theorem vP (x:Inst) (r:Rte) (hx:InstOk x) (hl:r.visits.length<=1048576) (hrl:r.rests.length<=1048576) (hty:0<=r.typ/\r.typ<(x.types.length:Int)) (h0:Xk x r.visits=0) :
  PT 232 [.p (Zv x),.p (Wd r)] [.p (F2 (Jz x r).1),.p (.int .i64 (Jz x r).2)]:=by
 have hd:=QP hx;have hsq:=VY h0;have hol:=hd.ord;have htl:=hd.typ;have hvl:=hsq.len hol;have hok:=Aq hx hty hsq;have hsl:(ZP x r.visits).length=r.visits.length:=Yi
 have hs1:0<(ZP x r.visits).length:=by
  rw [hsl];have:=hsq.ne
  grind
 refine Zf [6,13,14] Tryz.func232 rfl ZcO ?_;simp (disch:=omega) only [Tryz.f232,go_sem,seval]
 by_cases hs:0<=r.start/\r.start<=4096
 ·refine Yn (Zeb x r hx hty h0 hs) (Zc ?_);refine cD ?_ ?_<;>intro h1<;>simp (disch:=omega) only [Sh.out h1,go_sem,seval,↓reduceIte]
  ·have e:Jz x r=(zShe,2):=by rw [Jz,if_neg Za]
   rw [e];exact we (by simp (disch:=omega) only [zShe,Zn,go_sem,seval])
  ·have hrs:r.rests.length<=r.visits.length+1:=Za
   have e:Jz x r=XB x r:=by simp_all [Jz]
   have hbn:= @PI x (ZF x r) (ZP x r.visits) r.start r.rests Za;rw [e,XB,Lr Za];refine (HR x (ZF x r) r false (ZP x r.visits)).use (Zc ?_)
   generalize hT:ZF x r=t at *
   generalize hS:ZP x r.visits=sp at *
   refine Zq (Weak.fz (o:=4) (by rfl)) ?_;refine Zg [13,14] _ _ _ _ (Zc ?_)
   refine ZZ [13,14] [3,4,6,8,38] (fun q:Nat×List Lab=> [(9,.p (.list false (q.2.map J3))),(39,.p (.int .i64 q.1))]) (fun _=> [Zi x,XA r,.cells [.p (.bool false),.p (.int .i64 0),.p (.list true []),.p (.int .i64 0),.p (.int .i64 0)],Wk x t r false sp,.dead])
    (fun q=>q.1<=sp.length+1/\KA Xe (XE x t sp) (UU r.rests) (sp.length+1) 0 [labF t r.start]=KA Xe (XE x t sp) (UU r.rests) (sp.length+1-q.1) q.1 q.2/\(∀L∈q.2,LabO sp.length q.1 L)/\q.2.length<=2^q.1) (fun q=>sp.length+1-q.1) (0,[labF t r.start]) ⟨Zb,Zb,fun L hL=>by grind [Ik],Zb⟩ (Weak.mk ?_) ?_
   ·simp (disch:=omega) only [Zi,XA,Wk,Zr,Zn,Xa,Z1,go_sem,seval]
   ·rintro ⟨k,l⟩ ⟨hk,hit,hlo,hll⟩;simp only at hk hit hlo hll;simp (disch:=omega) only [Zi,XA,Wk,go_sem,seval];refine cD ?_ ?_<;>intro h2<;>simp (disch:=omega) only [Sh.out h2,go_sem,seval,↓reduceIte]
    ·have hk2:k<=sp.length:=Za
     have hp20:2^k<=2^20:=YA Za Za;refine (Zbk x t r false sp hok hs1 k hk2 hrl l false Za hlo).use (Zc ?_)
     have hn:KA Xe (XE x t sp) (UU r.rests) (sp.length+1-k) k l=KA Xe (XE x t sp) (UU r.rests) (sp.length+1-(k+1)) (k+1) (Yf Xe [] (Vx (XE x t sp) (UU r.rests) k l)):=by
      have e:sp.length+1-k=(sp.length+1-(k+1))+1:=Za
      rw [e,KA]
     have hln:=D4 (Vx (XE x t sp) (UU r.rests) k l) [];have hln2:=HT (x:=x) (t:=t) (sp:=sp) (r:=r.rests) (k:=k) l;exact ⟨(k+1,Yf Xe [] (Vx (XE x t sp) (UU r.rests) k l)),⟨Za,hit.trans hn,iT hok hs1 hk2 hlo,by grind⟩,Za,Weak.mk (by simp (disch:=omega) only [Xa,Z1,go_sem,seval])⟩
    ·have hkn:k=sp.length+1:=Za
     subst hkn;rw [Kf,KA] at hit;rw [hit] at hbn ⊢;clear hit;refine cD ?_ ?_<;>intro h3<;>simp (disch:=omega) only [Sh.out h3,go_sem,seval,↓reduceIte]
     ·have hl0:l= []:=YG Za;subst hl0;have hbn:=hbn rfl;refine Wa (Lq 3 rfl rfl (Zc ?_));refine ⟨_,_,Ol (e:=4) rfl Tryz.underlying40 Zd rfl rfl rfl ?_ ?_ ?_,?_⟩
      ·simp
      ·simp;omega
      ·intro q hq;obtain ⟨b,_,rfl⟩:=Xn.1 hq
       rfl
      ·have hpl:(YT r.rests (sp.length+1)).length=sp.length+1:=by simp [YT];omega
       have hpad:r.rests.map eB++(PV.bool false::List.replicate r.visits.length (PV.bool false)).drop (r.rests.map eB).length=(YT r.rests (sp.length+1)).map eB:=by
        rw [YT,XD,<- K3,List.drop_replicate,AO,hsl,Z2];rfl
       have hcr:=ZkY x t r false sp hok hs1 hs (YT r.rests (sp.length+1)) false hpl;have hbad:=OB _ _ _ hbn;rw [hbad] at hcr;simp only [Xa,Z1];rw [hpad]
       generalize hRP:YT r.rests (sp.length+1)=rp at *
       refine Zq (Weak.fz (o:=5) (by rfl)) (Zg [] _ _ _ _ (UX ?_));rw [if_pos Za];refine Yn hcr (Zc ?_);have hfm0:Vb Wn none ([]:List Lab)=none:=rfl;rw [hfm0];exact we (by simp (disch:=omega) only [W3,zShe,Zn,go_sem,seval])
     ·cases l with
      | nil=>simp at h3
      | cons l0 l =>
       have e0:KX ((l0::l).map J3) 0=J3 l0:=rfl;have hn0:nth (l0::l) 0=l0:=rfl;simp (disch:=first | omega | (simp only [ZC,ZG,ZJ,Z2,Xi,XN]<;>omega)) only [hn0,X5,go_sem,seval];have hfm:Vb Wn none (l0::l)=Vb Wn (some l0) l:=rfl;rw [hfm]
       have hlen:l.length<=2097152:=by
        have hp20:2^(sp.length+1)<=2^21:=YA Za Za
        grind
       refine Zk [4,12,65,66] (fun q:Nat×Lab=> [(67,.p (.int .i64 q.1))]) (fun q=> [Zi x,XA r,.cells [.p (.bool false),.p (.int .i64 0),.p (.list true []),.p (.int .i64 0),.p (.int .i64 0)],Wk x t r false sp,.dead,W7 q.2])
        (fun q=>q.1<=l.length/\Vb Wn (some l0) l=Vb Wn (some q.2) (l.drop q.1)) (fun q=>l.length-q.1) (0,l0) Zb (Weak.mk ?_) ?_
       ·simp (disch:=omega) only [Zi,XA,Wk,W7,go_sem,seval]
       ·rintro ⟨i,m⟩ ⟨hi,hm⟩;simp only at hi hm;simp (disch:=omega) only [Zi,XA,Wk,W7,go_sem,seval];refine cD ?_ ?_<;>intro h4<;>simp (disch:=omega) only [Sh.out h4,go_sem,seval,↓reduceIte]
        ·have hi2:i<l.length:=Za
         have hdrop:l.drop i=nth l i::l.drop (i+1):=by rw [Ud hi2,Zh hi2]
         rw [hdrop,Vb] at hm;refine ZK ?_ ?_<;>intro h5
         ·rw [if_pos (show Wn (nth l i)<Wn m from h5)] at hm;exact ⟨(i+1,nth l i),⟨Za,hm⟩,Za,wk⟩
         ·rw [if_neg (show ¬Wn (nth l i)<Wn m from h5)] at hm;exact ⟨(i+1,m),⟨Za,hm⟩,Za,wk⟩
        ·have hil:i=l.length:=Za
         subst hil;rw [Qs,Vb] at hm;rw [hm];exact we
 ·have e:Jz x r=(zShe,2):=by rw [Jz,if_neg (fun h=>hs ⟨h.1,h.2.1⟩)]
  rw [e];refine Yn (vU x r hty htl hvl hs) ?_;simp (disch:=omega) only [tG,go_sem,seval];exact we (by simp (disch:=omega) only [zShe,Zn,go_sem,seval])
end Go.Proofs.YtenjikkmmibffaaGreatDoor.K
namespace Go.AM
open Go.RowKit
theorem mW (k v:Int) (l:List (Int×Int)): ∃l',mV (.int .i64 k) (.int .i64 v) (l.map eII)=l'.map eII/\(∀q,K7 l' q=if q=k then v else K7 l q)/\l'.length<=l.length+1:=by
 unfold mV;rw [DV]
 cases hm:Iw l k with
 | none =>
  refine ⟨l++ [(k,v)],by simp [eII],fun q=> ?_,Zb⟩
  have e1:Iw (l++ [(k,v)]) k=some l.length:=by
   grind [Iw]
  by_cases hq:q=k
  ·grind [K7]
  ·rw [if_neg hq];unfold K7
   have e3:Iw (l++ [(k,v)]) q=Iw l q:=by
    grind [Iw]
   rw [e3]
   cases hc:Iw l q with
   | none=>rfl
   | some i =>
    unfold Iw at hc
    grind [UK]
 | some i =>
  refine ⟨l.set i (k,v),by simp_all [eII],?_,Zb⟩;have hH:oat [.map (l.map eII)] 0= .map (l.map eII):=rfl;have:=Rl (H:= [.map (l.map eII)]) (o:=0) (l:=l) (k:=k) (i:=i) (v:=v) (K:=fun _ _=> ∀q,K7 (l.set i (k,v)) q=if q=k then v else K7 l q) hH hm fun h=>h;unfold Ay at this;obtain ⟨u,q1,_⟩:=Gs hm
  simp_all [Bu]
theorem mX {P:Program} {H:List Obj} {t:TypeId} {o:Nat} {l:List (Int×Int)} {k v:Int} {K:V->List Obj->Prop} (hT:mP P t=some (.int .i64,some (.int .i64 0))) (hH:oat H o= .map (l.map eII))
  (h: ∀l':List (Int×Int),(∀q,K7 l' q=if q=k then v else K7 l q)->K .junk (H.set o (.map (l'.map eII)))):Bu (Es P H t (.mp o) (.p (.int .i64 k)) (.p (.int .i64 v))) K:=by
 obtain ⟨kt,et,h1,h2,h3⟩:=N4 hT;obtain ⟨l',e,hg,_⟩:=mW k v l
 grind [Es,Ip,Bu]
end Go.AM
namespace Go.Proofs.YtenjikkmmibffaaGreatDoor.K
open Go Go.AM Go.Proofs
set_option maxRecDepth 8000
set_option maxHeartbeats 8000000
def F0 (l:List Vis) (k:Nat) (q:Int):Int:=((l.take k).countP fun v=>decide (v.order=q):Nat)
theorem aZ {l:List Vis} {k:Nat} (h:k<l.length) (q:Int):F0 l (k+1) q=if q=(nth l k).order then F0 l k q+1 else F0 l k q:=by
 unfold F0;rw [XZ h,List.countP_append,Zh h]
 grind
theorem jM {l:List Vis} {k:Nat} (h:k<=l.length) (q:Int):0<=F0 l k q/\F0 l k q<=k:=by
 grind [F0,Xi]
theorem PU {l:List Vis} {k:Nat} :UJ l k=decide (F0 l k (nth l k).order=0):=by
 unfold UJ F0;rw [Wf];simp
theorem BS (a b:Int):PC 260 [.p (.int .i64 a),.p (.int .i64 b)] (.bool (Xy a b)):=by
 refine Ze Tryz.func260 rfl Zde ?_;simp (disch:=omega) only [Tryz.f260,go_sem,seval];refine gT ?_ ?_<;>intro h<;>simp (disch:=omega) only [Sh.out h,go_sem,seval,↓reduceIte]
 ·simp [Xy,h]
 simp_all [Xy]
theorem nV (x:Inst) (r:Rte) (s:She) (hty:0<=r.typ/\r.typ<(x.types.length:Int)) (ho:x.orders.length<=1048576) (ht:x.types.length<=1048576) (hl:r.visits.length<=1048576) (hv:Inr x r.visits)
  (hc:0<=(ZF x r).fixed/\(ZF x r).fixed<=100000/\0<=(ZF x r).perMile/\(ZF x r).perMile<=100/\0<=(ZF x r).perTick/\(ZF x r).perTick<=100) (ho2:0<=(ZF x r).opn/\(ZF x r).opn<=4096)
  (hf: -4096<=s.fin/\s.fin<=8192) (hm:0<=s.miles/\s.miles<=1000000) :
  PC 233 [.p (Zv x),.p (Wd r),.p (F2 s)] (Bl (Eb x r s)):=by
 have hti:r.typ.toNat<x.types.length:=Za
 have hT:mP Tryz.prog 339=some (.int .i64,some (.int .i64 0)):=Zd
 unfold Eb;have htd:nth x.types r.typ.toNat=ZF x r:=rfl
 generalize ZF x r=t at *
 have e1: ¬r.typ<0:=Za
 have e2: ¬(x.types.length:Int)<=r.typ:=Za
 have p1:0<=t.perMile*s.miles/\t.perMile*s.miles<=100*1000000:=⟨UO Za Za,VQ Za Za Za Za⟩
 have hW: -8192<=s.fin-t.opn/\s.fin-t.opn<=8192:=Za
 have p2: -819200<=t.perTick*(s.fin-t.opn)/\t.perTick*(s.fin-t.opn)<=819200:=by
  generalize s.fin-t.opn=w at hW;have a1:=BP hW.2 (show 0<=t.perTick by omega);have a2:=BP hW.1 (show 0<=t.perTick by omega);omega
 have p3: -128<=(s.fin-t.opn).tdiv 64/\(s.fin-t.opn).tdiv 64<=128:=by
  grind
 have p4:0<=(s.fin-t.opn).tdiv 64*(s.fin-t.opn).tdiv 64/\(s.fin-t.opn).tdiv 64*(s.fin-t.opn).tdiv 64<=16384:=by
  generalize (s.fin-t.opn).tdiv 64=q at p3;refine ⟨?_,?_⟩
  ·rcases AV 0 q with h | h
   ·exact UO h h
   ·exact Int.mul_nonneg_of_nonpos_of_nonpos h h
  ·rcases AV 0 q with h | h
   ·have:=VQ p3.2 p3.2 h Za;omega
   ·have h2:0<= -q:=Za
    have:=VQ (show-q<=128 by omega) (show-q<=128 by omega) h2 Za
    grind
 refine Ze Tryz.func233 rfl ZcP ?_;simp (disch:=omega) only [Tryz.f233,e1,e2,htd,go_sem,seval]
 refine Zk [3,4,6,10,11,59,60] (fun q:Nat×List (Int×Int)=> [(61,.p (.int .i64 q.1))]) (fun q=> [Zi x,XA r,.cells [.p (.bool s.rest),.p (.int .i64 s.dep),.p (.list s.times_c (s.times.map eTim)),.p (.int .i64 s.fin),.p (.int .i64 s.miles)],Qa 0 0 0 0,Ym t,Qa (t.fixed+t.perMile*s.miles+t.perTick*(s.fin-t.opn)) (chgF x r.visits r.typ q.1).1 (chgF x r.visits r.typ q.1).2 ((s.fin-t.opn).tdiv 64*(s.fin-t.opn).tdiv 64),.map (q.2.map eII)])
  (fun q=>q.1<=r.visits.length/\ ∀n,K7 q.2 n=F0 r.visits q.1 n) (fun q=>r.visits.length-q.1) (0,[]) ⟨Zb,fun n=>rfl⟩ (Weak.mk ?_) ?_
 ·simp (disch:=omega) only [Zi,XA,Ym,Qa,chgF,go_sem,seval]
 ·rintro ⟨k,m⟩ ⟨hk,hmg⟩;simp only at hk hmg;have hch:=Ct (x:=x) (l:=r.visits) (t:=r.typ) k;simp (disch:=omega) only [Zi,XA,Ym,Qa,go_sem,seval];refine cD ?_ ?_<;>intro h1<;>simp (disch:=omega) only [Sh.out h1,go_sem,seval,↓reduceIte]
  ·have hk2:k<r.visits.length:=Za
   obtain ⟨v1,v2⟩:=hv _ (Zt hk2)
   have e3: ¬(nth r.visits k).order<0:=Za
   have e4: ¬(x.orders.length:Int)<=(nth r.visits k).order:=Za
   have v3:(nth r.visits k).order.toNat<x.orders.length:=Za
   have hcs:=aZ hk2;have hcr:=jM hk (nth r.visits k).order;have hfi:=PU (l:=r.visits) (k:=k);have hch2:chgF x r.visits r.typ (k+1)=_:=chgF.eq_2 x r.visits r.typ k;refine N1 hT rfl ?_;rw [hmg];refine Zc ?_;refine mX hT rfl fun m' hm'=> ?_
   have hmg': ∀n,K7 m' n=F0 r.visits (k+1) n:=fun n=>by grind
   simp (disch:=omega) only [e3,e4,Xa,Z1,go_sem,seval];refine N1 hT rfl ?_;rw [hm',if_pos rfl];refine Zc ?_;refine ZK ?_ ?_<;>intro h2
   ·have h3: ¬UJ r.visits k=true:=by grind
    rw [if_neg h3] at hch2;exact ⟨(k+1,m'),⟨Za,hmg'⟩,Za,Weak.mk (by simp (disch:=omega) only [hch2,go_sem,seval])⟩
   ·have h3:UJ r.visits k=true:=by grind
    rw [if_pos h3] at hch2;refine (BS (nth x.orders (nth r.visits k).order.toNat).now r.typ).use (Zc ?_);refine cD ?_ ?_<;>intro h4<;>simp (disch:=omega) only [Sh.out h4,go_sem,seval,↓reduceIte]
    ·rw [if_pos h4] at hch2;refine (BS (nth x.orders (nth r.visits k).order.toNat).last r.typ).use (Zc ?_);refine ZK ?_ ?_<;>intro h5
     ·rw [if_pos h5] at hch2;exact ⟨(k+1,m'),⟨Za,hmg'⟩,Za,Weak.mk (by simp (disch:=omega) only [hch2,go_sem,seval])⟩
     ·rw [if_neg (by rw [h5];simp)] at hch2;exact ⟨(k+1,m'),⟨Za,hmg'⟩,Za,Weak.mk (by simp (disch:=omega) only [hch2,UP,go_sem,seval])⟩
    ·rw [if_neg (by rw [h4];simp)] at hch2;refine (BS (nth x.orders (nth r.visits k).order.toNat).last r.typ).use (Zc ?_);refine ZK ?_ ?_<;>intro h5
     ·rw [if_pos h5] at hch2;exact ⟨(k+1,m'),⟨Za,hmg'⟩,Za,Weak.mk (by simp (disch:=omega) only [hch2,UP,go_sem,seval])⟩
     ·rw [if_neg (by rw [h5];simp)] at hch2;exact ⟨(k+1,m'),⟨Za,hmg'⟩,Za,Weak.mk (by simp (disch:=omega) only [hch2,UP,go_sem,seval])⟩
  grind
end Go.Proofs.YtenjikkmmibffaaGreatDoor.K
