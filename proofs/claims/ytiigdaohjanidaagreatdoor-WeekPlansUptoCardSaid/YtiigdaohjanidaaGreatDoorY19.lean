/- Declarations that the closing texts need, part 19: joined by tools/slim.py. -/
import Derived.Test.YtiigdaohjanidaaGreatDoorY18
set_option linter.unusedVariables false
set_option linter.unusedSimpArgs false
namespace Go.Proofs.YtiigdaohjanidaaGreatDoor.K
section
variable {L : Type} (fin : L -> Int) (beats : L -> L -> Bool) (nxt : Nat -> L -> Bool -> Option L) (choices : Nat -> List Bool)
def Vn : Option L->List L->Option L
 | b,[]=>b
 | none,x::l=>Vn (some x) l
 | some m,x::l=>if fin x<fin m then Vn (some x) l else Vn (some m) l
theorem KH : ∀(b:Option L) (l r:List L),Vn fin b (l++r)=Vn fin (Vn fin b l) r
 | b,[],r=>by rfl
 | none,x::l,r=>by rw [ZP,Vn,Vn,KH]
 | some m,x::l,r=>by
  rw [ZP,Vn,Vn]
  split
  ·rw [KH]
  ·rw [KH]
theorem QF : ∀(l:List L) (m:L),∃z,Vn fin (some m) l=some z/\fin z<=fin m/\ ∀y∈l,fin z<=fin y
 | [],m=>⟨m,rfl,Za,Zb⟩
 | x::l,m=>by
  rw [Vn]
  split
  ·rename_i h;obtain ⟨z,e,h1,h2⟩:=QF l x
   grind
  ·rename_i h;obtain ⟨z,e,h1,h2⟩:=QF l m
   grind
theorem Lj : ∀(l:List L) (m:L),(∀y∈l,fin m<=fin y)->Vn fin (some m) l=some m
 | [],m,_=>rfl
 | x::l,m,h=>by
  have:=h x List.mem_cons_self;rw [Vn,if_neg Za];exact Lj l m fun y hy=>h y (YF _ hy)
theorem RM (A B:List L) (h: ∀y∈B,∃z∈A,fin z<=fin y):Vn fin none (A++B)=Vn fin none A:=by
 rw [KH]
 cases A with
 | nil=>cases B with
  | nil=>rfl
  | cons y B=>grind [List.mem_cons_self]
 | cons a A =>
  rw [Vn];obtain ⟨z,e,h1,h2⟩:=QF fin A a;rw [e];refine Lj fin B z fun y hy=> ?_
  grind
def XT : List L->List L->List L
 | out,[]=>out
 | out,x::l=>if out.any (fun m=>beats m x)=true then XT out l else XT (out++ [x]) l
theorem Cg {R:L->List L} : ∀(c out:List L),(∀x∈out++c,∀m∈out++c,beats m x=true-> ∀y∈R x,∃z∈R m,fin z<=fin y)->Vn fin none ((XT beats out c).flatMap R)=Vn fin none ((out++c).flatMap R)
 | [],out,_=>by simp [XT]
 | x::c,out,h=>by
  rw [XT]
  split
  ·rename_i hb;obtain ⟨m,hm,hb⟩:=UE.1 hb
   have hb:beats m x=true:=by simpa using hb
   rw [Cg c out (fun a ha b hb=>h a (by simp only [Xy,Xq] at ha ⊢;rcases ha with h | h<;>simp [h]) b (by simp only [Xy,Xq] at hb ⊢;rcases hb with h | h<;>simp [h]))];rw [List.flatMap_append,List.flatMap_append,Ji,<- UC,KH,KH (l:=out.flatMap R++R x)];rw [RM fin (out.flatMap R) (R x)];intro y hy;obtain ⟨z,hz,hle⟩:=h x Zb m (by simp [hm]) hb y hy;exact ⟨z,Yk.2 ⟨m,hm,hz⟩,hle⟩
  ·rw [Cg c (out++ [x]) (by simpa using h)];simp
theorem K5 : ∀(c out:List L),∀x∈XT beats out c,x∈out++c
 | [],out,x,h=>by grind [XT]
 | a::c,out,x,h=>by
  rw [XT] at h
  split at h
  ·have:=K5 c out x h;simp only [Xy,Xq] at this ⊢;rcases this with h | h<;>simp [h]
  ·have:=K5 c (out++ [a]) x h;simpa using this
def Hv : Nat->Nat->List (List Bool)
 | 0,_=> [[]]
 | j+1,k=>(choices k).flatMap fun b=>(Hv j (k+1)).map (b:: ·)
def Vm : Nat->L->List Bool->Option L
 | _,x,[]=>some x
 | k,x,b::bs=>match nxt k x b with
  | some y=>Vm (k+1) y bs
  | none=>none
def Ve (j k:Nat) (x:L):List L:=(Hv choices j k).filterMap (Vm nxt k x)
def WV (k:Nat) (l:List L):List L:=l.flatMap fun x=>(choices k).filterMap (nxt k x)
def JH : Nat->Nat->List L->List L
 | 0,_,l=>l
 | j+1,k,l=>JH j (k+1) (XT beats [] (WV nxt choices k l))
theorem NY (k:Nat) (x:L):Ve nxt choices 0 k x= [x]:=rfl
theorem EK (j k:Nat) (x:L):Ve nxt choices (j+1) k x=((choices k).filterMap (nxt k x)).flatMap (Ve nxt choices j (k+1)):=by
 unfold Ve;rw [Hv]
 induction choices k with
 | nil=>rfl
 | cons b bs ih =>
  rw [Ji,List.filterMap_append,ih,List.filterMap_cons]
  cases h:nxt k x b with
  | none =>
   simp_all [Vm]
  | some y =>
   rw [List.filterMap_map]
   have:(Vm nxt k x∘fun l=>b::l)=Vm nxt (k+1) y:=by grind [Vm]
   grind
theorem Gz {n:Nat} {Inv:Nat->L->Prop} (hI: ∀k x b y,Inv k x->nxt k x b=some y->Inv (k+1) y) (hd: ∀k m x b y,Inv k m->Inv k x->beats m x=true->nxt k x b=some y-> ∃z,nxt k m b=some z/\beats z y=true)
  (he: ∀m x,Inv n m->Inv n x->beats m x=true->fin m<=fin x): ∀(j k:Nat) (m x:L),k+j=n->Inv k m->Inv k x->beats m x=true-> ∀y∈Ve nxt choices j k x,∃z∈Ve nxt choices j k m,fin z<=fin y
 | 0,k,m,x,hk,h1,h2,hb,y,hy=>by
  grind [NY]
 | j+1,k,m,x,hk,h1,h2,hb,y,hy=>by
  rw [EK] at hy ⊢;obtain ⟨q,hq,hy⟩:=Yk.1 hy;obtain ⟨b,hbm,hn⟩:=Bq.1 hq;obtain ⟨z,hz,hzb⟩:=hd k m x b q h1 h2 hb hn;obtain ⟨u,hu,hle⟩:=Gz hI hd he j (k+1) z q Za (hI k m b z h1 hz) (hI k x b q h2 hn) hzb y hy
  grind
theorem Pc {n:Nat} {Inv:Nat->L->Prop} (hI: ∀k x b y,Inv k x->nxt k x b=some y->Inv (k+1) y) (hd: ∀k m x b y,Inv k m->Inv k x->beats m x=true->nxt k x b=some y-> ∃z,nxt k m b=some z/\beats z y=true)
  (he: ∀m x,Inv n m->Inv n x->beats m x=true->fin m<=fin x): ∀(j k:Nat) (l:List L),k+j=n->(∀x∈l,Inv k x)->Vn fin none (JH beats nxt choices j k l)=Vn fin none (l.flatMap (Ve nxt choices j k))
 | 0,k,l,hk,hl=>by
  have:l.flatMap (Ve nxt choices 0 k)=l:=by
   have:Ve nxt choices 0 k=fun x=> [x]:=by rfl
   rw [this];simp
  rw [this];rfl
 | j+1,k,l,hk,hl=>by
  have hc: ∀x∈WV nxt choices k l,Inv (k+1) x:=fun x hx=>by
   obtain ⟨q,hq,hx⟩:=Yk.1 hx
   grind
  have e:l.flatMap (Ve nxt choices (j+1) k)=(WV nxt choices k l).flatMap (Ve nxt choices j (k+1)):=by
   rw [WV,List.flatMap_assoc]
   congr 1
   grind [EK]
  rw [JH,Pc hI hd he j (k+1) _ Za (fun x hx=>hc x (by simpa using K5 beats _ _ x hx)),Cg fin beats _ _ (fun x hx m hm hb y hy=> ?_),e]
  ·simp
  ·exact Gz fin beats nxt choices hI hd he j (k+1) m x Za (hc m (by grind)) (hc x (by grind)) hb y hy
def Y3 : List Bool->List (List Bool)
 | []=> [[]]
 | b::bs=>if b then (Y3 bs).map (true:: ·) else (Y3 bs).map (false:: ·)++(Y3 (List.replicate bs.length false)).map (true:: ·)
termination_by l => l.length
decreasing_by all_goals simp
def Yb : List Bool->Option (List Bool)
 | []=>none
 | b::bs=>match Yb bs with
  | some l=>some (b::l)
  | none=>if b then none else some (true::List.replicate bs.length false)
theorem fromB_next : ∀l:List Bool,Y3 l=l::(match Yb l with | some r=>Y3 r | none=> [])
 | []=>by simp [Y3,Yb]
 | b::bs=>by
  have ih:=fromB_next bs
  have e0: ∀l:List Bool,Y3 (true::l)=(Y3 l).map (true:: ·):=fun l=>by rw [Y3];simp
  have e1: ∀l:List Bool,Y3 (false::l)=(Y3 l).map (false:: ·)++(Y3 (List.replicate l.length false)).map (true:: ·):=fun l=>by rw [Y3];simp
  cases b with
  | true =>
   rw [e0,ih,Yb]
   cases h:Yb bs with
   | none=>simp
   | some r=>simp [e0]
  | false =>
   rw [e1,ih,Yb]
   cases h:Yb bs with
   | none=>simp [e0]
   | some r =>
    have hl:r.length=bs.length:=nlen bs r h;simp [e1,hl]
where nlen : ∀(l r:List Bool),Yb l=some r->r.length=l.length
 | [],r,h=>by simp [Yb] at h
 | b::bs,r,h=>by
  rw [Yb] at h
  cases h2:Yb bs with
  | none =>
   grind
  | some q =>
   rw [h2] at h;simp at h;subst h;simp [nlen bs q h2]
theorem I8 {n:Nat} : ∀(j k:Nat),(∀q,k<=q->choices q= [false,true])->Hv choices j k=Y3 (List.replicate j false)
 | 0,k,_=>by simp [Hv,Y3]
 | j+1,k,h=>by
  rw [Hv,h k (ZL _),I8 (n:=n) j (k+1) (fun q hq=>h q Za),Jh,Y3];simp
end
end Go.Proofs.YtiigdaohjanidaaGreatDoor.K
namespace Go.Proofs.YtiigdaohjanidaaGreatDoor.K
open Go Go.AM Go.Proofs
def Fx (x:Inst) (l:List Vis) (n i:Nat):Bool:=(l.take n).foldl (fun on v=>if v.order=(i:Int) then !v.drp else on) (decide ((nth x.orders i).pick.place<0))
theorem dZ {x:Inst} {l:List Vis} {i:Nat} :Fx x l 0 i=decide ((nth x.orders i).pick.place<0):=by simp [Fx]
theorem EA {x:Inst} {l:List Vis} {n i:Nat} (h:n<l.length):Fx x l (n+1) i=if (nth l n).order=(i:Int) then !(nth l n).drp else Fx x l n i:=by
 grind [Fx,ZE,Zi]
structure SqOk (x:Inst) (l:List Vis):Prop where
 ne:l≠ []
 inr:Inr x l
 nd:l.Nodup
 pair: ∀v∈l,pairB x.orders l v=true
theorem U9 {x:Inst} {l:List Vis} (h:Xm x l=0):SqOk x l:=by
 unfold Xm at h
 split at h
 ·simp at h
 ·rename_i h1
  split at h
  ·simp at h
  ·split at h
   ·simp at h
   ·rename_i h3
    split at h
    ·simp at h
    ·rename_i h4;refine ⟨fun e=>h1 (.inl (by simp [e])),fun v hv=> ?_,AQ.1 (by grind),fun v hv=> ?_⟩
     ·grind [VP]
     grind
structure OwnV (x:Inst) (l:List Vis) (i:Nat):Prop where
 pick:0<=(nth x.orders i).pick.place->(⟨i,false⟩:Vis)∈l
 drp:0<=(nth x.orders i).drp.place->(⟨i,true⟩:Vis)∈l
 both:0<=(nth x.orders i).pick.place->0<=(nth x.orders i).drp.place->vIx l ⟨i,false⟩<vIx l ⟨i,true⟩
 isP:(⟨i,false⟩:Vis)∈l->0<=(nth x.orders i).pick.place
 isD:(⟨i,true⟩:Vis)∈l->0<=(nth x.orders i).drp.place
theorem SqOk.own {x:Inst} {l:List Vis} (h:SqOk x l) {i:Nat} (hi: ∃v∈l,v.order=(i:Int)):OwnV x l i:=by
 obtain ⟨v0,hv0,ho⟩:=hi
 have key: ∀v∈l,v.order=(i:Int)->v∈ZT x.orders i/\Qf l (-1) (ZT x.orders i)=true:=fun v hv hvo=>by
  have:=h.pair v hv;simp only [pairB,hvo,XK,ZG,Zl] at this;exact ⟨WH.1 this.1,this.2⟩
 obtain ⟨_,hasc⟩:=key v0 hv0 ho;have mem: ∀b:Bool,(⟨i,b⟩:Vis)∈l->(⟨i,b⟩:Vis)∈ZT x.orders i:=fun b hb=>(key _ hb rfl).1
 have hp:(⟨i,false⟩:Vis)∈ZT x.orders i->0<=(nth x.orders i).pick.place:=fun hm=>by
  unfold ZT at hm
  grind
 have hd:(⟨i,true⟩:Vis)∈ZT x.orders i->0<=(nth x.orders i).drp.place:=fun hm=>by
  unfold ZT at hm
  grind
 have m1: ∀v,-1<vIx l v->v∈l:=fun v hv=>WH.1 Za;unfold ZT at hasc
 by_cases c1:0<=(nth x.orders i).pick.place<;>by_cases c2:0<=(nth x.orders i).drp.place
 ·simp only [c1,c2,if_true,ZP,ZR,Qf,Jm,ZG,Zl] at hasc;exact ⟨fun _=>m1 _ hasc.1,fun _=>m1 _ Za,fun _ _=>hasc.2,fun _=>c1,fun _=>c2⟩
 ·simp only [c1,c2,if_true,Ys,We,Qf,Jm,Zl] at hasc;exact ⟨fun _=>m1 _ hasc,fun h=>absurd h c2,fun _ h=>absurd h c2,fun _=>c1,fun hm=>hd (mem _ hm)⟩
 ·simp only [c1,c2,if_true,Ys,ZR,Qf,Jm,Zl] at hasc;exact ⟨fun h=>absurd h c1,fun _=>m1 _ hasc,fun h=>absurd h c1,fun hm=>hp (mem _ hm),fun _=>c2⟩
 ·exact ⟨fun h=>absurd h c1,fun h=>absurd h c2,fun h=>absurd h c1,fun hm=>hp (mem _ hm),fun hm=>hd (mem _ hm)⟩
theorem QW {l:List Vis} (hn:l.Nodup) {v:Vis} {n:Nat} :v∈l.take n↔0<=vIx l v/\vIx l v<(n:Int):=by
 constructor
 ·intro h;obtain ⟨j,h1,h2,rfl⟩:=QX h
  grind [AR]
 ·intro ⟨h1,h2⟩;obtain ⟨h3,h4⟩:=PS h1
  grind [Es]
theorem dY {x:Inst} {l:List Vis} (h:SqOk x l) (i:Nat): ∀n,n<=l.length->Fx x l n i=if (⟨i,true⟩:Vis)∈l.take n then false else if (⟨i,false⟩:Vis)∈l.take n then true else decide ((nth x.orders i).pick.place<0)
 | 0,_=>by simp [Fx]
 | n+1,hn=>by
  have hk:n<l.length:=Za
  have hat:=AR h.nd hk;rw [EA hk,dY h i n Za]
  by_cases c:(nth l n).order=(i:Int)
  ·rw [if_pos c];have ho:=h.own (i:=i) ⟨nth l n,Zq hk,c⟩
   cases hd:(nth l n).drp with
   | true =>
    have hv:nth l n=⟨i,true⟩:=by rw [<- c,<- hd]
    rw [hv] at hat;have:(⟨i,true⟩:Vis)∈l.take (n+1):=(QW h.nd).2 Za;rw [if_pos this];rfl
   | false =>
    have hv:nth l n=⟨i,false⟩:=by rw [<- c,<- hd]
    rw [hv] at hat;have h1:(⟨i,false⟩:Vis)∈l.take (n+1):=(QW h.nd).2 Za
    have h2: ¬(⟨i,true⟩:Vis)∈l.take (n+1):=fun hm=>by
     have h3:=Jr hm;have h4:=(QW h.nd).1 hm;have h5:=ho.both (ho.isP (Jr h1)) (ho.isD h3);omega
    rw [if_neg h2,if_pos h1];rfl
  ·rw [if_neg c]
   have e: ∀b:Bool,((⟨i,b⟩:Vis)∈l.take (n+1))=((⟨i,b⟩:Vis)∈l.take n):=fun b=>by
    rw [ZE hk,Xy,<- Zi hk];refine propext ⟨fun hm=>hm.resolve_right fun hm=> ?_,.inl⟩;simp at hm;exact c (by rw [<- hm])
   simp only [e]
theorem Zbf {x:Inst} {l:List Vis} (h:SqOk x l) {k i:Nat} (hk:k<l.length) (hi:(nth l k).order=(i:Int)):Fx x l k i=(nth l k).drp:=by
 have hat:=AR h.nd hk;have ho:=h.own (i:=i) ⟨nth l k,Zq hk,hi⟩;have hm:=Zq hk;rw [dY h i k Za]
 cases hd:(nth l k).drp with
 | true =>
  have hv:nth l k=⟨i,true⟩:=by rw [<- hi,<- hd]
  rw [hv] at hat hm
  have h1: ¬(⟨i,true⟩:Vis)∈l.take k:=fun hm=>by have:=(QW h.nd).1 hm;omega
  rw [if_neg h1]
  by_cases c:0<=(nth x.orders i).pick.place
  ·have h2:=ho.both c (ho.isD hm);have h3:(⟨i,false⟩:Vis)∈l.take k:=(QW h.nd).2 ⟨WH.2 (ho.pick c),Za⟩
   grind
  grind
 | false =>
  have hv:nth l k=⟨i,false⟩:=by rw [<- hi,<- hd]
  rw [hv] at hat hm;have hp:=ho.isP hm
  have h1: ¬(⟨i,false⟩:Vis)∈l.take k:=fun hm=>by have:=(QW h.nd).1 hm;omega
  grind
theorem oF {f g:Nat->Int} {i:Nat} (h: ∀q,q≠i->f q=g q): ∀n,i<n->((List.range n).map f).sum=((List.range n).map g).sum+(f i-g i):=by
 have same: ∀n,n<=i->((List.range n).map f).sum=((List.range n).map g).sum:=fun n hn=>by
  grind [Vt]
 intro n
 induction n with
 | zero=>omega
 | succ n ih =>
  intro hi;simp only [Wt,Xi,ZN,Zk,List.sum_append,List.sum_cons,List.sum_nil]
  grind
theorem PK {f:Nat->Int} {b:Int} (hb:0<=b) (h: ∀q,0<=f q/\f q<=b): ∀n:Nat,0<=((List.range n).map f).sum/\((List.range n).map f).sum<=b*n
 | 0=>Zb
 | n+1=>by
  have ih:=PK hb h n
  grind [Wt]
theorem JC {p:Nat->Bool} {f:Nat->Int} : ∀l:List Nat,((l.filter p).map f).sum=(l.map fun i=>if p i=true then f i else 0).sum
 | []=>rfl
 | a::l=>by
  rw [List.filter_cons,ZN,List.sum_cons]
  by_cases h:p a=true
  ·rw [if_pos h,ZN,List.sum_cons,JC l,if_pos h]
  ·rw [if_neg h,JC l,if_neg h];omega
def Di (x:Inst) (l:List Vis) (n j:Nat):Int:=((List.range x.orders.length).map fun i=>if (Fx x l n i&&hasO l i)=true then nth (nth x.orders i).load j else 0).sum
theorem GM {x:Inst} {l:List Vis} (h:SqOk x l) {k j:Nat} (hk:k<l.length):Di x l (k+1) j=if (nth l k).drp=true then Di x l k j-nth (nth x.orders (nth l k).order.toNat).load j else Di x l k j+nth (nth x.orders (nth l k).order.toNat).load j:=by
 obtain ⟨v1,v2⟩:=h.inr _ (Zq hk);obtain ⟨i,hi⟩: ∃i:Nat,(nth l k).order=(i:Int):=⟨(nth l k).order.toNat,Za⟩;have hh:hasO l (i:Int)=true:=YC.2 ⟨_,Zq hk,hi⟩;have h1:=Zbf h hk hi
 have h2:Fx x l (k+1) i= !(nth l k).drp:=by simp_all [EA]
 unfold Di
 rw [oF (f:=fun i=>if (Fx x l (k+1) i&&hasO l i)=true then nth (nth x.orders i).load j else 0) (g:=fun i=>if (Fx x l k i&&hasO l i)=true then nth (nth x.orders i).load j else 0) (i:=i) (fun q hq=>by
  have:Fx x l (k+1) q=Fx x l k q:=by rw [EA hk,if_neg Za]
  grind) x.orders.length Za]
 grind
def Wa (x:Inst) (l:List Vis) (n:Nat):List Int:=(List.range (dimsOf x.types).toNat).map fun j=>Di x l n j
def DK (a b:List Int):List Int:=(List.range a.length).map fun j=>nth a j+nth b j
def oC (a b:List Int):List Int:=(List.range a.length).map fun j=>nth a j-nth b j
theorem DL {x:Inst} {l:List Vis} {n:Nat} :(Wa x l n).length=(dimsOf x.types).toNat:=by simp [Wa]
theorem Kj {f:Nat->Int} {n j:Nat} (h:j<n):nth ((List.range n).map f) j=f j:=by
 grind [Zi]
theorem P7 {x:Inst} {l:List Vis} (h:SqOk x l) {k:Nat} (hk:k<l.length):Wa x l (k+1)=if (nth l k).drp=true then oC (Wa x l k) (nth x.orders (nth l k).order.toNat).load else DK (Wa x l k) (nth x.orders (nth l k).order.toNat).load:=by
 have key: ∀g:Nat->Int,(∀j,j<(dimsOf x.types).toNat->Di x l (k+1) j=g j)->Wa x l (k+1)=(List.range (dimsOf x.types).toNat).map g:=fun g hg =>
  Vt fun j hj=>hg j (Xa.1 hj)
 split
 ·simp_all [oC,GM,Wa,Kj]
 simp_all [DK,GM,Wa,Kj]
structure RightV (x:Inst) (l:List Vis):Prop where
 ne:l≠ []
 inr:Inr x l
 off: ∀v∈l,(nth x.orders v.order.toNat).off=false
 nodup:l.Nodup
 pair: ∀v∈l,pairB x.orders l v=true
 apart: ∀p∈x.apart,¬(hasO l p.1=true/\hasO l p.2=true)
 before: ∀p∈x.before,beforeB l p.1 p.2=true
theorem SH {x:Inst} {l:List Vis} :Xm x l=0↔RightV x l:=by
 unfold Xm;rw [Vc Za,Vc Za,Vc Za,Vc Za,Vc Za,Vc Za];simp only [and_true,V0,AQ]
 have hin:l.any (VP x)=false↔Inr x l:=by
  rw [YG];exact ⟨fun h v hv=>by grind [VP],fun h v hv=>by simpa [VP] using h v hv⟩
 constructor
 ·rintro ⟨h1,h2,h3,h4,h5,h6⟩;rw [not_or,V0,hin] at h1;rw [YG] at h2 h5 h6;refine ⟨fun e=>h1.1 (by rw [e];rfl),h1.2,fun v hv=>by grind,h3,?_,fun p hp=>by grind,fun p hp=>by grind⟩
  grind
 ·intro h;refine ⟨?_,?_,h.nodup,?_,?_,?_⟩
  ·rw [not_or,V0,hin];exact ⟨fun e=>h.ne (Xe e),h.inr⟩
  ·rw [YG];intro v hv;simp [h.off v hv]
  ·rw [ZC.2 h.pair];simp
  ·rw [YG];intro p hp;simpa using h.apart p hp
  ·rw [YG];intro p hp;simpa using h.before p hp
theorem Ss {os:List Ord} {l:List Vis} {v:Vis} {i:Nat} (h:v.order=(i:Int)):pairB os l v=true↔v∈ZT os i/\(∀w∈ZT os i,w∈l)/\((⟨i,false⟩:Vis)∈ZT os i->(⟨i,true⟩:Vis)∈ZT os i->vIx l ⟨i,false⟩<vIx l ⟨i,true⟩):=by
 rw [pairB,h,XK,ZG,Zl,WH];refine and_congr Iff.rfl ?_
 have hm: ∀w:Vis,-1<vIx l w↔w∈l:=fun w=>by grind [WH]
 rcases JF os i with e | e | e | e<;>rw [e]
 ·simp [Qf]
 ·simp [Qf,hm]
 ·simp [Qf,hm]
 ·simp only [Qf,Jm,ZG,Zl,hm,Xq,Jj,or_false,forall_eq_or_imp,forall_eq]
  grind
section
variable {x : Inst} {l : List Vis}
theorem RightV.bit (h:RightV x l) (i:Nat):(XZ l).testBit i=true↔ ∃v∈l,v.order=(i:Int):=by
 rw [BB];exact ⟨fun ⟨v,hv,e⟩=>⟨v,hv,by have:=h.inr v hv;omega⟩,fun ⟨v,hv,e⟩=>⟨v,hv,Za⟩⟩
theorem RightV.lt (h:RightV x l) (hf:IFacts x):XZ l<9223372036854775808/\XZ l / pw x.orders.length=0:=by
 have h1:XZ l<9223372036854775808:=by
  have:=K4 l.length (l:=l) (ZL _) (fun v hv=>by
   rw [UB] at hv;have:=h.inr v hv;have:=hf.len
   simp [Fv];omega)
  grind
 refine ⟨h1,Rr h1 fun j _ hj=> ?_⟩;obtain ⟨v,hv,e⟩:=(h.bit j).1 hj;have:=h.inr v hv;omega
theorem RightV.ord (h:RightV x l) (hf:IFacts x):Qu l=(((XZ l:Nat):Int),0):=by
 rw [Qu,if_pos];rw [ZC];intro v hv;have:=h.inr v hv;have:=hf.len;simp [Fv];omega
theorem RightV.step (h:RightV x l) {a b:Nat} (hE:Ed x.before a b) (hb:0<=AG l b):0<=AG l a/\AG l a<AG l b:=by
 obtain ⟨p,hp,e1,e2⟩:=hE;have hbe:=UV.1 (h.before p hp);rw [e1,e2] at hbe;obtain ⟨h1,h2⟩:=hbe hb;have h0:=K1.2 h1;obtain ⟨g1,g2,_⟩:=By h0
 grind
theorem RightV.chain (h:RightV x l) {a b:Nat} (hc:Ch x.before a b) (hb:0<=AG l b):0<=AG l a/\AG l a<AG l b:=by
 induction hc with
 | one hE=>exact h.step hE hb
 | more _ hE ih =>
  have h1:=h.step hE hb;omega
theorem RightV.alw (h:RightV x l) (hf:IFacts x):Alw x (XZ l):=by
 have hn:x.orders.length<=60:=by have:=hf.len;omega
 refine ⟨fun i hi hb=> ?_,?_,fun p hp hb=> ?_,fun i hi hb hc=> ?_⟩
 ·obtain ⟨v,hv,e⟩:=(h.bit i).1 hb;have:=h.off v hv
  grind
 ·rw [apB,YG];intro p hp;have hv:=hf.aval p hp;rw [VO h.inr hn _ Za,VO h.inr hn _ Za,ZG];exact h.apart p hp
 ·have hv:=hf.val p hp;rw [VO h.inr hn _ Za] at hb ⊢;rw [YC] at hb ⊢;exact (UV.1 (h.before p hp) (K1.2 hb)).1
 ·have hb2:=K1.2 ((h.bit i).1 hb);have:=(h.chain hc hb2).2;omega
theorem Gr.at {S:Nat} (h:Gr x S l): ∀k,k<l.length->nth l k∈nextU x S (l.take k) x.orders.length:=by
 induction h with
 | nil=>simp
 | snoc h hv ih =>
  rename_i l v;intro k hk;simp at hk;rcases Ww k l.length with h2 | h2
  ·grind [Zi]
  ·have:k=l.length:=Za
   simp_all [Zi]
theorem Gr.right {S:Nat} (h:Gr x S l) (hf:IFacts x) (ha:Alw x S) (h0:S≠0) (hS:S / pw x.orders.length=0) (hl:l.length=Am x S x.orders.length):RightV x l/\XZ l=S:=by
 have hn:x.orders.length<=60:=by have:=hf.len;omega
 have hfull:=h.full hl
 have hsub: ∀v∈l,∃i:Nat,v.order=(i:Int)/\i<x.orders.length/\S.testBit i=true/\v∈ZT x.orders i:=fun v hv=>by
  obtain ⟨i,i1,i2,i3⟩:=WB.1 (h.sub v hv);exact ⟨i,Yf i3,i1,i2,i3⟩
 have hinr:Inr x l:=fun v hv=>by grind
 have hgo: ∀k,k<l.length-> ∃i:Nat,(nth l k).order=(i:Int)/\nth l k∈ZT x.orders i/\nth l k ∉ l.take k/\((nth l k).drp=true->(⟨i,false⟩:Vis)∈ZT x.orders i->(⟨i,false⟩:Vis)∈l.take k)/\ ∀p∈x.before,p.2=(i:Int)-> ∀w∈ZT x.orders p.1.toNat,w∈l.take k:=fun k hk=>by
  obtain ⟨i,i1,i2,i3,i4,i5⟩:=VL.1 (h.at k hk);obtain ⟨r1,r2,r3⟩:=(Vx i4).1 i5;exact ⟨i,Yf i4,i4,r1,r2,r3⟩
 have hbit:XZ l=S:=Bo fun i=>by
  rw [Wu,BB]
  constructor
  ·grind
  ·intro hb;have hi:=Na hS hb;obtain ⟨w,hw⟩:=List.exists_mem_of_ne_nil _ (hf.vne i hi);have:=Yf hw;exact ⟨w,hfull w (WB.2 ⟨i,hi,hb,hw⟩),Za⟩
 refine ⟨⟨fun e=> ?_,hinr,fun v hv=> ?_,h.nodup,fun v hv=> ?_,fun p hp=> ?_,fun p hp=> ?_⟩,hbit⟩
 ·have:=PL hf.vne hS h0
  grind
 ·obtain ⟨i,i1,i2,i3,i4⟩:=hsub v hv;rw [i1,XK];exact ha.off i i2 i3
 ·obtain ⟨i,i1,i2,i3,i4⟩:=hsub v hv;refine (Ss i1).2 ⟨i4,fun w hw=>hfull w (WB.2 ⟨i,i2,i3,hw⟩),fun hq1 hq2=> ?_⟩;have m2:=WH.2 (hfull _ (WB.2 ⟨i,i2,i3,hq2⟩));obtain ⟨g1,g2⟩:=PS m2;obtain ⟨j,j1,j2,j3,j4,j5⟩:=hgo _ g1;rw [g2] at j1 j4
  have:j=i:=by grind
  subst this;obtain ⟨q,q1,q2,q3⟩:=QX (j4 rfl hq1);have:=(ZbP q2).2
  grind
 ·have:=ha.apart;rw [apB,YG] at this;have h2:=this p hp;have hv:=hf.aval p hp;rw [<- hbit,VO hinr hn _ Za,VO hinr hn _ Za,ZG] at h2;exact h2
 ·rw [UV];intro hb;have hv:=hf.val p hp;obtain ⟨g1,g2,g3⟩:=By hb;obtain ⟨j,j1,j2,j3,j4,j5⟩:=hgo _ g1;have hall:=j5 p hp Za;refine ⟨?_,fun q hq e=> ?_⟩
  ·obtain ⟨w,hw⟩:=List.exists_mem_of_ne_nil _ (hf.vne p.1.toNat Za);exact ⟨w,Jr (hall w hw),by rw [Yf hw];omega⟩
  ·obtain ⟨i,i1,i2,i3,i4⟩:=hsub _ (Zq hq)
   have:i=p.1.toNat:=Za
   subst this;obtain ⟨q2,r1,r2,r3⟩:=QX (hall _ i4);have e1:=AR h.nodup r2;have e2:=AR h.nodup hq
   grind
end
set_option maxRecDepth 8000
section
variable {σ : Type}
def B6 (nx:List Vis->List Vis):Nat->List Vis->List (List Vis)
 | 0,l=> [l]
 | f+1,l=>if nx l= [] then [l] else (nx l).flatMap fun v=>B6 nx f (l++ [v])
def lvW (nx:List Vis->List Vis) (go:σ->Vis->σ) (emp:σ->Bool):Nat->List Vis->σ->List (List Vis)
 | 0,l,_=> [l]
 | f+1,l,s=>(nx l).flatMap fun v=>if emp (go s v)=true then [] else lvW nx go emp f (l++ [v]) (go s v)
theorem Pi {nx:List Vis->List Vis} : ∀(f:Nat) (l m:List Vis),m∈B6 nx f l-> ∃r,m=l++r
 | 0,l,m,h=>by simp_all [B6]
 | f+1,l,m,h=>by
  rw [B6] at h
  split at h
  ·simp_all
  ·obtain ⟨v,_,h⟩:=Yk.1 h;obtain ⟨r,rfl⟩:=Pi f _ m h;simp
theorem VX {α β:Type} {p:β->Bool} {g:α->List β} : ∀l:List α,(l.flatMap g).filter p=l.flatMap fun a=>(g a).filter p
 | []=>rfl
 | a::l=>by rw [Ji,Ji,List.filter_append,VX l]
theorem Bb {α β:Type} {g h:α->List β} : ∀ {l:List α},(∀a∈l,g a=h a)->l.flatMap g=l.flatMap h
 | [],_=>rfl
 | a::l,e=>by rw [Ji,Ji,e a Zb,Bb fun b hb=>e b (YF _ hb)]
theorem rO {nx:List Vis->List Vis} {go:σ->Vis->σ} {emp:σ->Bool} {ok:List Vis->Bool} {G:List Vis->Prop} {R:List Vis->σ->Prop} {tot:Nat}
  (hG: ∀l v,G l->v∈nx l->G (l++ [v])) (hR: ∀l s v,G l->R l s->v∈nx l->R (l++ [v]) (go s v)) (hE: ∀l s,G l->R l s->emp s=true-> ∀r,ok (l++r)=false)
  (hN: ∀l,G l->l.length<tot->nx l≠ []): ∀(f:Nat) (l:List Vis) (s:σ),G l->R l s->l.length+f=tot->(B6 nx f l).filter ok=(lvW nx go emp f l s).filter ok
 | 0,l,s,_,_,_=>rfl
 | f+1,l,s,hl,hs,ht=>by
  rw [B6,lvW,if_neg (hN l hl Za),VX,VX];refine Bb fun v hv=> ?_;have h1:=hG l v hl hv;have h2:=hR l s v hl hs hv
  split
  ·rename_i he;rw [List.filter_nil,List.filter_eq_nil_iff];intro m hm;obtain ⟨r,rfl⟩:=Pi f _ m hm
   grind
  ·exact rO hG hR hE hN f _ _ h1 h2 (by simp;omega)
def XQ (ok:List Vis->Bool) (col:List Vis->Col) (better:Col->Col->Bool) (b:Col×Bool) (l:List Vis):Col×Bool:=if ok l=true/\(b.2=false\/better (col l) b.1=true) then (col l,true) else b
theorem Qa {ok:List Vis->Bool} {col:List Vis->Col} {better:Col->Col->Bool} : ∀(L:List (List Vis)) (b:Col×Bool),L.foldl (XQ ok col better) b=(L.filter ok).foldl (XQ ok col better) b
 | [],b=>rfl
 | l::L,b=>by
  rw [XF,List.filter_cons]
  split
  ·rw [XF];exact Qa L _
  ·rename_i h;rw [XQ,if_neg (fun g=>h g.1)];exact Qa L b
theorem E4 {ok:List Vis->Bool} {col:List Vis->Col} {better:Col->Col->Bool} : ∀(L:List (List Vis)) (c c':Col),(L.foldl (XQ ok col better) (c,false)).2=(L.foldl (XQ ok col better) (c',false)).2/\((L.foldl (XQ ok col better) (c,false)).2=true->(L.foldl (XQ ok col better) (c,false)).1=(L.foldl (XQ ok col better) (c',false)).1)
 | [],c,c'=>⟨rfl,fun h=>by cases h⟩
 | l::L,c,c'=>by
  rw [XF,XF]
  by_cases h:ok l=true
  ·rw [XQ,if_pos ⟨h,.inl rfl⟩,XQ,if_pos ⟨h,.inl rfl⟩];simp
  ·rw [XQ,if_neg (fun g=>h g.1),XQ,if_neg (fun g=>h g.1)];exact E4 L c c'
end
set_option maxRecDepth 60000
set_option maxHeartbeats 8000000
def C6 (x:Inst) (n:Int):Prop:=x.orders.length<=n/\x.types.length<=2/\x.net.places.length<=6/\x.net.arcs.length<=40/\x.apart.length<=4/\x.before.length<=4/\InstOk x
theorem F1 (x:Inst) (hw:x.wf 1048576) (n:Int) (b:Bool) (hb:b=true↔C6 x n):PC 34 [.p (Zs x),.p (.int .i64 n)] (.bool b):=by
 have w1:=hw.1.1;have w2:=hw.1.2.2.1;have w3:=hw.2.1;have w4:=hw.2.2.2.1;have w5:=hw.2.2.2.2.2.1;have w6:=hw.2.2.2.2.2.2.2.1
 suffices hh:ACalls Tryz.prog 34 [.p (Zs x),.p (.int .i64 n)] [] fun y H'=> ∃b:Bool,(b=true↔C6 x n)/\y= .p (.bool b)/\H'= [] by
  grind
 refine ACalls.pureE (X7 Tryz.func34 rfl ZgV (Zf [] _ _ _ _ ?_));simp (disch:=omega) only [Tryz.f34,go_sem,seval];refine gT ?_ ?_<;>intro h1<;>simp (disch:=omega) only [Sh.out h1,go_sem,seval,↓reduceIte]
 ·refine gT ?_ ?_<;>intro h2<;>simp (disch:=omega) only [Sh.out h2,go_sem,seval,↓reduceIte]
  ·refine gT ?_ ?_<;>intro h3<;>simp (disch:=omega) only [Sh.out h3,go_sem,seval,↓reduceIte]
   ·refine gT ?_ ?_<;>intro h4<;>simp (disch:=omega) only [Sh.out h4,go_sem,seval,↓reduceIte]
    ·refine gT ?_ ?_<;>intro h5<;>simp (disch:=omega) only [Sh.out h5,go_sem,seval,↓reduceIte]
     ·refine gT ?_ ?_<;>intro h6<;>simp (disch:=omega) only [Sh.out h6,go_sem,seval,↓reduceIte]
      ·refine ((uO x hw).frozenE).useV fun m hm=> ?_;refine Yv ?_;refine ⟨decide (m.length=0),?_,Zb⟩;have:=hm.emp;rw [Zl,List.length_eq_zero_iff,this];exact ⟨fun h=>⟨Za,Za,Za,Za,Za,Za,h⟩,fun h=>h.2.2.2.2.2.2⟩
      ·exact ⟨false,by simp [C6];omega,rfl⟩
     ·exact ⟨false,by simp [C6];omega,rfl⟩
    ·exact ⟨false,by simp [C6];omega,rfl⟩
   ·exact ⟨false,by simp [C6];omega,rfl⟩
  ·exact ⟨false,by simp [C6];omega,rfl⟩
 ·exact ⟨false,by simp [C6];omega,rfl⟩
theorem oT (x:Inst) (s:List UInt8) (ho:x.orders.length<=1048576):PC 79 [.p (Zs x),.p (.str s)] (.int .i64 (AB x.orders s)):=by
 refine Zc Tryz.func79 rfl Zhi ?_;simp (disch:=omega) only [Tryz.f79,go_sem,seval];refine Zj [1,8,9] (fun k:Nat=> [(10,.p (.int .i64 k))]) (fun _=> [Zg x]) (fun k=>k<=x.orders.length/\ ∀j,j<k->(nth x.orders j).name≠s) (fun k=>x.orders.length-k) 0 Zb (Weak.mk ?_) ?_
 ·simp (disch:=omega) only [Zg,go_sem,seval]
 ·rintro k ⟨hk,hno⟩;refine X6 ?_;refine cD ?_ ?_<;>intro h<;>simp (disch:=omega) only [Sh.out h,go_sem,seval,↓reduceIte]
  ·have hk2:k<x.orders.length:=Za
   refine ZH ?_ ?_<;>intro h2
   ·grind [OS]
   ·exact ⟨k+1,⟨Za,Zn.2 ⟨hno,h2⟩⟩,Za,wk⟩
  grind [OT]
theorem SD (x:Inst) (s:List UInt8) (ho:x.orders.length<=1048576):PC 82 [.p (Zs x),.p (.str s)] (.int .i64 (AB x.orders s)):=by
 refine Zc Tryz.func82 rfl Zhl ?_;simp (disch:=omega) only [Tryz.f82,go_sem,seval];refine Zj [1,2] (fun k:Nat=> [(5,.p (.int .i64 k))]) (fun _=> [Zg x]) (fun k=>k<=x.orders.length/\ ∀j,j<k->(nth x.orders j).name≠s) (fun k=>x.orders.length-k) 0 Zb (Weak.mk ?_) ?_
 ·simp (disch:=omega) only [Zg,go_sem,seval]
 ·rintro k ⟨hk,hno⟩;refine X6 ?_;refine cD ?_ ?_<;>intro h<;>simp (disch:=omega) only [Sh.out h,go_sem,seval,↓reduceIte]
  ·have hk2:k<x.orders.length:=Za
   refine ZH ?_ ?_<;>intro h2
   ·grind [OS]
   ·exact ⟨k+1,⟨Za,Zn.2 ⟨hno,h2⟩⟩,Za,wk⟩
  grind [OT]
theorem SY (ds:List Inst) (c:Bool) (hl:ds.length<=1048576) (hw: ∀x∈ds,x.wf 1048576) :
  ACalls Tryz.prog 9 [.p (.list c (ds.map Zs))] [] fun y H'=> ∃b:Bool,(b=true->ds.length<=3/\ ∀x∈ds,C6 x 2)/\y= .p (.bool b)/\H'= []:=by
 refine ACalls.pureE (X7 Tryz.func9 rfl Zmd (Zf [] _ _ _ _ ?_));simp (disch:=omega) only [Tryz.f9,go_sem,seval];refine cD ?_ ?_<;>intro h<;>simp (disch:=omega) only [Sh.out h,go_sem,seval]
 ·simp
 ·refine Zj [0] (fun k:Nat=> [(3,.p (.int .i64 k))]) (fun _=> []) (fun k=>k<=ds.length/\ ∀j,j<k->C6 (nth ds j) 2) (fun k=>ds.length-k) 0 Zb (Weak.mk ?_) ?_
  ·simp (disch:=omega) only [go_sem,seval,↓reduceIte]
  ·rintro k ⟨hk,hno⟩;refine Yv ?_;refine cD ?_ ?_<;>intro h1<;>simp (disch:=omega) only [Sh.out h1,go_sem,seval,↓reduceIte]
   ·have hk2:k<ds.length:=Za
    have hwk:=hw _ (Zq hk2);have hw0:=hw _ (Zq (show 0<ds.length by omega));have w3:=hwk.2.1;have w4:=hw0.2.1
    by_cases hp:C6 (nth ds k) 2
    ·have cf:=F1 (nth ds k) hwk 2 true (by simp [hp]);refine Xd (Yv ?_);refine Zo (cf) (Yv ?_);refine cD ?_ ?_<;>intro h3<;>simp (disch:=omega) only [Sh.out h3,go_sem,seval,↓reduceIte]
     ·simp
     ·exact ⟨k+1,⟨Za,Zn.2 ⟨hno,hp⟩⟩,Za,wk⟩
    ·have cf:=F1 (nth ds k) hwk 2 false (by simp [hp]);refine Xd (Yv ?_);refine Zo (cf) (Yv ?_);simp
   ·have hkl:k=ds.length:=Za
    subst hkl;refine ⟨true,fun _=>⟨Za,fun x hx=> ?_⟩,rfl⟩;obtain ⟨j,hj,rfl⟩:=ZD.1 hx
    grind [Zi]
theorem EF (l:List Pt) (c d:Bool) (hl:l.length<=1048576):PC 84 [.p (.list c (l.map Fe)),.p (.list d (l.map Fe))] (.bool true):=by
 refine Zc Tryz.func84 rfl Zhn ?_;simp (disch:=omega) only [Tryz.f84,go_sem,seval];refine Zj [0,1] (fun k:Nat=> [(5,.p (.int .i64 k))]) (fun _=> []) (fun k=>k<=l.length) (fun k=>l.length-k) 0 Zb (Weak.mk ?_) ?_
 ·simp (disch:=omega) only [go_sem,seval,↓reduceIte]
 ·intro k hk;refine Yv ?_;refine cD ?_ ?_<;>intro h<;>simp (disch:=omega) only [Sh.out h,go_sem,seval,↓reduceIte]
  ·have hk2:k<l.length:=Za
   refine Xd (Yv ?_);exact ⟨k+1,Za,Za,wk⟩
theorem Gu (l:List (Int×Int)) (c d:Bool) (hl:l.length<=1048576):PC 45 [.p (.list c (l.map eP)),.p (.list d (l.map eP))] (.bool true):=by
 refine Zc Tryz.func45 rfl Zg6 ?_;simp (disch:=omega) only [Tryz.f45,go_sem,seval];refine Zj [0,1] (fun k:Nat=> [(5,.p (.int .i64 k))]) (fun _=> []) (fun k=>k<=l.length) (fun k=>l.length-k) 0 Zb (Weak.mk ?_) ?_
 ·simp (disch:=omega) only [go_sem,seval,↓reduceIte]
 ·intro k hk;refine Yv ?_;refine cD ?_ ?_<;>intro h<;>simp (disch:=omega) only [Sh.out h,go_sem,seval,↓reduceIte]
  ·have hk2:k<l.length:=Za
   refine Xd (Yv ?_);exact ⟨k+1,Za,Za,wk⟩
theorem SS (l:List Int) (c d:Bool) (hl:l.length<=1048576):PC 85 [.p (.list c (l.map eI)),.p (.list d (l.map eI))] (.bool true):=by
 refine Zc Tryz.func85 rfl Zho ?_;simp (disch:=omega) only [Tryz.f85,go_sem,seval];refine Zj [0,1] (fun k:Nat=> [(5,.p (.int .i64 k))]) (fun _=> []) (fun k=>k<=l.length) (fun k=>l.length-k) 0 Zb (Weak.mk ?_) ?_
 ·simp (disch:=omega) only [go_sem,seval,↓reduceIte]
 ·intro k hk;refine Yv ?_;refine cD ?_ ?_<;>intro h<;>simp (disch:=omega) only [Sh.out h,go_sem,seval,↓reduceIte]
  ·have hk2:k<l.length:=Za
   refine Xd (Yv ?_);exact ⟨k+1,Za,Za,wk⟩
theorem gD (t:Typ) (c d:Bool) (hl:t.cap.length<=1048576):PC 43 [.p (Vr { t with cap_c:=c }),.p (Vr { t with cap_c:=d })] (.bool true):=by
 refine Zc Tryz.func43 rfl Zg4 ?_;simp (disch:=omega) only [Tryz.f43,go_sem,seval];refine ZS [8] [2,3] (fun k:Nat=> [(5,.p (.int .i64 k))]) (fun _=> [XV { t with cap_c:=c },XV { t with cap_c:=d }]) (fun k=>k<=t.cap.length) (fun k=>t.cap.length-k) 0 Zb (Weak.mk ?_) ?_
 ·simp (disch:=omega) only [XV,go_sem,seval]
 ·intro k hk;simp (disch:=omega) only [XV,go_sem,seval];refine cD ?_ ?_<;>intro h<;>simp (maxSteps:=3000000) (disch:=omega) only [Sh.out h,go_sem,seval,↓reduceIte]
  ·have hk2:k<t.cap.length:=Za
   refine Xd (Yv ?_);exact ⟨k+1,Za,Za,wk⟩
theorem gE (o:Ord) (hl:o.load.length<=1048576):PC 44 [.p (eOrd o),.p (eOrd o)] (.bool true):=by
 refine Zc Tryz.func44 rfl Zg5 ?_;simp (maxSteps:=3000000) (disch:=omega) only [Tryz.f44,go_sem,seval,↓reduceIte];refine (SS o.load o.load_c o.load_c hl).use ?_;simp (maxSteps:=3000000) (disch:=omega) only [go_sem,seval,↓reduceIte]
theorem dR (n:Net) (hw:n.wf 1048576):PC 42 [.p (Ai n),.p (Ai n)] (.bool true):=by
 have hp:=hw.1;have ha:=hw.2.2.1;have haw:=hw.2.2.2;refine Zc Tryz.func42 rfl Zg3 ?_;simp (disch:=omega) only [Tryz.f42,go_sem,seval];refine Zj [2,3] (fun k:Nat=> [(5,.p (.int .i64 k))]) (fun _=>ZW n++ZW n) (fun k=>k<=n.places.length) (fun k=>n.places.length-k) 0 Zb (Weak.mk ?_) ?_
 ·simp (disch:=omega) only [ZW,ZP,ZR,go_sem,seval]
 ·intro k hk;simp (disch:=omega) only [ZW,ZP,ZR,go_sem,seval];refine cD ?_ ?_<;>intro h<;>simp (disch:=omega) only [Sh.out h,go_sem,seval,↓reduceIte]
  ·have hk2:k<n.places.length:=Za
   refine Xd (Yv ?_);exact ⟨k+1,Za,Za,wk⟩
  ·have hkl:k=n.places.length:=Za
   subst hkl;clear hk h;refine Zj [2,3] (fun k:Nat=> [(6,.p (.int .i64 k))]) (fun _=>ZW n++ZW n) (fun k=>k<=n.arcs.length) (fun k=>n.arcs.length-k) 0 Zb (Weak.mk ?_) ?_
   ·simp (disch:=omega) only [ZW,ZP,ZR,go_sem,seval]
   ·intro k hk;simp (disch:=omega) only [ZW,ZP,ZR,go_sem,seval];refine cD ?_ ?_<;>intro h<;>simp (disch:=omega) only [Sh.out h,go_sem,seval,↓reduceIte]
    ·have hk2:k<n.arcs.length:=Za
     have hak:=haw _ (Zq hk2);have ht:(nth n.arcs k).travel.length<=1048576:=hak.2.2.2.2.1;have hs:(nth n.arcs k).slow.length<=1048576:=hak.2.2.2.2.2.2.1;refine (EF (nth n.arcs k).travel (nth n.arcs k).travel_c (nth n.arcs k).travel_c ht).use (Yv ?_);refine (EF (nth n.arcs k).slow (nth n.arcs k).slow_c (nth n.arcs k).slow_c hs).use (Yv ?_);exact ⟨k+1,Za,Za,wk⟩
theorem gG (n:Net) (ts us:List Typ) (os:List Ord) (ap be:List (Int×Int)) (c1 c2 c3 c4 d1 d2 d3 d4:Bool) (hn:n.wf 1048576) (htl:ts.length=us.length) (hts: ∀k,k<ts.length->(∃c,nth ts k= { nth us k with cap_c:=c })/\(nth us k).cap.length<=1048576)
  (hl:us.length<=1048576) (ho:os.length<=1048576) (how: ∀o∈os,o.load.length<=1048576) (ha:ap.length<=1048576) (hb:be.length<=1048576) :
  PC 14 [.p (Zs ⟨n,c1,ts,c2,os,c3,ap,c4,be⟩),.p (Zs ⟨n,d1,us,d2,os,d3,ap,d4,be⟩)] (.bool true):=by
 refine Zc Tryz.func14 rfl ZgU ?_;simp (disch:=omega) only [Tryz.f14,go_sem,seval];refine (dR n hn).use (Yv ?_);simp (disch:=omega) only [htl,go_sem,seval];refine Zj [2,3] (fun k:Nat=> [(5,.p (.int .i64 k))]) (fun _=> [Zg ⟨n,c1,ts,c2,os,c3,ap,c4,be⟩,Zg ⟨n,d1,us,d2,os,d3,ap,d4,be⟩]) (fun k=>k<=ts.length) (fun k=>ts.length-k) 0 Zb (Weak.mk ?_) ?_
 ·simp (disch:=omega) only [Zg,go_sem,seval]
 ·intro k hk;refine X6 ?_;refine cD ?_ ?_<;>intro h<;>simp (disch:=omega) only [Sh.out h,go_sem,seval,↓reduceIte]
  ·have hk2:k<ts.length:=Za
   obtain ⟨⟨c,e⟩,hcl⟩:=hts k hk2;have c10:=gD (nth us k) c (nth us k).cap_c hcl;rw [<- e] at c10;refine Xd (Yv ?_);refine Zo (c10) (Yv ?_);exact ⟨k+1,Za,Za,wk⟩
  ·refine Zj [2,3] (fun k:Nat=> [(6,.p (.int .i64 k))]) (fun _=> [Zg ⟨n,c1,ts,c2,os,c3,ap,c4,be⟩,Zg ⟨n,d1,us,d2,os,d3,ap,d4,be⟩]) (fun k=>k<=os.length) (fun k=>os.length-k) 0 Zb (Weak.mk ?_) ?_
   ·simp (disch:=omega) only [Zg,go_sem,seval]
   ·intro k hk;refine X6 ?_;refine cD ?_ ?_<;>intro h<;>simp (disch:=omega) only [Sh.out h,go_sem,seval,↓reduceIte]
    ·have hk2:k<os.length:=Za
     refine Xd (Yv ?_);refine Zo (gE (nth os k) (how _ (Zq hk2))) (Yv ?_);exact ⟨k+1,Za,Za,wk⟩
    ·refine (Gu ap c3 d3 ha).use (Yv ?_);refine (Gu be c4 d4 hb).use ?_;simp (disch:=omega) only [go_sem,seval,↓reduceIte]
theorem gJ (x:Inst) (hw:x.wf 1048576):PC 14 [.p (Zs x),.p (Zs x)] (.bool true):=by
 obtain ⟨w1,w2,w3,w4,w5,w6,w7,w8,w9⟩:=hw;exact gG x.net x.types x.types x.orders x.apart x.before x.types_c x.orders_c x.apart_c x.before_c x.types_c x.orders_c x.apart_c x.before_c w1 rfl (fun k hk=>⟨⟨_,rfl⟩,(w3 _ (Zq hk)).2.2.2.2.1⟩) w2 w4 (fun o ho=>(w5 o ho).2.1) w6 w8
def QS (l:List Pt) (t:Int) (i:Nat):Bool:=decide ((nth l i).t<=t)&&decide (t<(nth l (i+1)).t)
def Mh (p q:Pt) (t:Int):Int:=p.a+((t-p.t)*(q.a-p.a)+q.t-p.t-1) / (q.t-p.t)
def JY (l:List Pt) (t:Int):Int:=match (List.range (l.length-1)).find? (QS l t) with
 | some i=>Mh (nth l i) (nth l (i+1)) t
 | none=>if (nth l 0).t<t then t+(nth l (l.length-1)).a-(nth l (l.length-1)).t else t+(nth l 0).a-(nth l 0).t
theorem Hc {l:List Pt} {t:Int} {i:Nat} (hi:i+1<l.length) (hno: ∀j,j<i->QS l t j=false) (h:QS l t i=true):JY l t=Mh (nth l i) (nth l (i+1)) t:=by
 have:(List.range (l.length-1)).find? (QS l t)=some i:=by
  grind [List.find?_eq_some_iff_getElem]
 rw [JY,this]
theorem Dl {l:List Pt} {t:Int} (hno: ∀j,j+1<l.length->QS l t j=false):JY l t=if (nth l 0).t<t then t+(nth l (l.length-1)).a-(nth l (l.length-1)).t else t+(nth l 0).a-(nth l 0).t:=by
 grind [JY]
theorem EV {p q:Pt} {t:Int} (h1:p.t<=t) (h2:t<q.t) (hp:0<=p.t) (hq:q.t<=4096) (ha:p.a<=q.a) (hpa:0<=p.a) (hqa:q.a<=8192):0<=(t-p.t)*(q.a-p.a)/\(t-p.t)*(q.a-p.a)<=33554432:=by
 refine ⟨Jl Za Za,?_⟩;have:(t-p.t)*(q.a-p.a)<=4096*8192:=Qq Za Za Za Za;omega
theorem MZ (l:List Pt) (c:Bool) (t:Int) (hl:WZ l) (ht:0<=t/\t<=1073741824):PC 324 [.p (.list c (l.map Fe)),.p (.int .i64 t)] (.int .i64 (JY l t)):=by
 obtain ⟨⟨hl1,hl2⟩,hpt⟩:=hl;refine Zc Tryz.func324 rfl ZaR ?_;simp (disch:=omega) only [Tryz.f324,go_sem,seval];refine ((aH l c Za).frozenE).useV fun m hm=>Yv ?_
 have hm0:m.length=0:=by rw [hm.emp.2 ⟨⟨hl1,hl2⟩,hpt⟩];rfl
 have e1: ¬t<0:=Za
 have e2: ¬ 1073741824<t:=Za
 simp (disch:=omega) only [hm0,e1,e2,go_sem,seval];refine Zj [0,1] (fun k:Nat=> [(5,.p (.int .i64 k))]) (fun _=> []) (fun k=>k<l.length/\ ∀j,j<k->QS l t j=false) (fun k=>l.length-k) 0 (by simp;omega) (Weak.mk ?_) ?_
 ·simp (disch:=omega) only [go_sem,seval,↓reduceIte]
 ·rintro k ⟨hk,hno⟩;refine Yv ?_;refine cD ?_ ?_<;>intro h<;>simp (disch:=omega) only [Sh.out h,go_sem,seval,↓reduceIte]
  ·have hk2:k+1<l.length:=Za
   obtain ⟨⟨p1,p2,p3,p4⟩,_⟩:=hpt k hk;obtain ⟨⟨q1,q2,q3,q4⟩,q5⟩:=hpt (k+1) hk2;obtain ⟨r1,r2⟩:=q5 Za;rw [Nat.add_sub_cancel] at r1 r2;refine gT ?_ ?_<;>intro h2<;>simp (disch:=omega) only [Sh.out h2,go_sem,seval,↓reduceIte]
   ·refine cD ?_ ?_<;>intro h3<;>simp (disch:=omega) only [Sh.out h3,go_sem,seval,↓reduceIte]
    ·have hsg:QS l t k=true:=by simp [QS,h2,h3]
     rw [Hc hk2 hno hsg];obtain ⟨s1,s2⟩:=EV h2 h3 p1 q2 r2 Za Za;have d1:0<=((t-(nth l k).t)*((nth l (k+1)).a-(nth l k).a)+(nth l (k+1)).t-(nth l k).t-1) / ((nth l (k+1)).t-(nth l k).t):=Int.ediv_nonneg Za Za;have d2:((t-(nth l k).t)*((nth l (k+1)).a-(nth l k).a)+(nth l (k+1)).t-(nth l k).t-1) / ((nth l (k+1)).t-(nth l k).t)<=33558528:=Int.le_trans (Int.ediv_le_self _ Za) Za
     have d3: ¬(nth l (k+1)).t-(nth l k).t=0:=Za
     simp only [Mh];refine Xd ?_;simp (disch:=omega) only [go_sem,seval,↓reduceIte]
    ·have hsg:QS l t k=false:=by simp [QS,h3]
     exact ⟨k+1,⟨Za,Zn.2 ⟨hno,hsg⟩⟩,Za,wk⟩
   ·have hsg:QS l t k=false:=by simp [QS,h2]
    exact ⟨k+1,⟨Za,Zn.2 ⟨hno,hsg⟩⟩,Za,wk⟩
  ·have hkl:k+1=l.length:=Za
   rw [Dl (fun j hj=>hno j Za)];obtain ⟨⟨p1,p2,p3,p4⟩,_⟩:=hpt 0 Za;obtain ⟨⟨q1,q2,q3,q4⟩,_⟩:=hpt (l.length-1) Za
   have i1:((l.length:Int)-1).toNat=l.length-1:=Za
   refine cD ?_ ?_<;>intro h2<;>simp (disch:=omega) only [Sh.out h2,go_sem,seval,↓reduceIte]
theorem ZV {α:Type} [Inhabited α] {l:List α} {i:Nat} (h:i<l.length):nth l i∈l:=by grind [Zi]
def jQ (a:Arc):Prop:=WZ a.travel/\a.slow.length<=16/\ ∀p∈a.slow,0<=p.t/\p.t<=4096/\0<=p.a/\p.a<=4096
def JL (l:List Pt) (t:Int) (k:Nat):Int:=(l.take k).foldl (fun s p=>if p.t<=t then s+p.a else s) 0
def ID (a:Arc) (t:Int):Int:=JY a.travel t+JL a.slow t a.slow.length
theorem AP {l:List Pt} {t:Int} {k:Nat} (h:k<l.length):JL l t (k+1)=if (nth l k).t<=t then JL l t k+(nth l k).a else JL l t k:=by
 grind [JL,ZE,Zi]
theorem K9 {l:List Pt} {t:Int} (hl: ∀p∈l,0<=p.a/\p.a<=4096): ∀k,k<=l.length->0<=JL l t k/\JL l t k<=4096*k
 | 0,_=>by simp [JL]
 | k+1,h=>by
  have ih:=K9 (t:=t) hl k Za
  grind [ZV,AP]
theorem DR {l:List Pt} {t:Int} (hl:WZ l) (ht:0<=t/\t<=1073741824):0<=JY l t/\JY l t<=1107304448:=by
 obtain ⟨⟨hl1,hl2⟩,hpt⟩:=hl;unfold JY
 split
 ·rename_i i hi;have hm:=YY hi;have hs:=U1 hi;simp at hm;simp only [QS,ZG,Zl] at hs;obtain ⟨⟨p1,p2,p3,p4⟩,_⟩:=hpt i Za;obtain ⟨⟨q1,q2,q3,q4⟩,q5⟩:=hpt (i+1) Za;obtain ⟨r1,r2⟩:=q5 Za;rw [Nat.add_sub_cancel] at r1 r2;obtain ⟨s1,s2⟩:=EV hs.1 hs.2 p1 q2 r2 Za Za;have d1:0<=((t-(nth l i).t)*((nth l (i+1)).a-(nth l i).a)+(nth l (i+1)).t-(nth l i).t-1) / ((nth l (i+1)).t-(nth l i).t):=Int.ediv_nonneg Za Za;have d2:((t-(nth l i).t)*((nth l (i+1)).a-(nth l i).a)+(nth l (i+1)).t-(nth l i).t-1) / ((nth l (i+1)).t-(nth l i).t)<=33558528:=Int.le_trans (Int.ediv_le_self _ Za) Za
  unfold Mh;omega
 ·obtain ⟨⟨p1,p2,p3,p4⟩,_⟩:=hpt 0 Za;obtain ⟨⟨q1,q2,q3,q4⟩,_⟩:=hpt (l.length-1) Za;omega
theorem M0 (a:Arc) (t:Int) (ha:jQ a) (ht:0<=t/\t<=1073741824):PC 320 [.p (VW a),.p (.int .i64 t)] (.int .i64 (ID a t)):=by
 obtain ⟨h1,h2,h3⟩:=ha;have hr:=DR h1 ht;have hs:=K9 (t:=t) (fun p hp=>(h3 p hp).2.2);refine Zc Tryz.func320 rfl ZaN ?_;simp (disch:=omega) only [Tryz.f320,go_sem,seval];refine (MZ a.travel a.travel_c t h1 ht).use (Yv ?_);refine Zj [1,2] (fun k:Nat=> [(5,.p (.int .i64 (JY a.travel t+JL a.slow t k))),(6,.p (.int .i64 k))]) (fun _=> [WJ a]) (fun k=>k<=a.slow.length) (fun k=>a.slow.length-k) 0 Zb (Weak.mk ?_) ?_
 ·simp (disch:=omega) only [WJ,JL,V2,go_sem,seval];simp
 ·intro k hk;have hsk:=hs k hk;simp (disch:=omega) only [WJ,go_sem,seval];refine cD ?_ ?_<;>intro h<;>simp (disch:=omega) only [Sh.out h,go_sem,seval,↓reduceIte]
  ·have hk2:k<a.slow.length:=Za
   have hp:=h3 _ (ZV hk2);have hsn:=AP (t:=t) hk2;refine ZH ?_ ?_<;>intro h4
   ·rw [if_pos h4] at hsn;exact ⟨k+1,Za,Za,Weak.mk (by simp (disch:=omega) only [hsn,Int.add_assoc,go_sem,seval])⟩
   ·rw [if_neg h4] at hsn;exact ⟨k+1,Za,Za,Weak.mk (by simp (disch:=omega) only [hsn,go_sem,seval])⟩
  grind [ID]
theorem GT {g:FuncId} {args:List V} {a b c:PV} {H:List AM.Obj} {K:V->List AM.Obj->Prop} (h:ACalls Tryz.prog g args [] fun x H'=>x= .tup [.p a,.p b,.p c]/\H'= []) (k:K (.tup [.p a,.p b,.p c]) H) (ha:Xb 0 args=true:=by rfl):ACalls Tryz.prog g args H K :=
 (h.behind ha H).mono fun x H' hq=>by
  obtain ⟨y,H1,⟨rfl,rfl⟩,rfl,rfl⟩:=hq
  grind [shV,shVs]
theorem X0 {g:FuncId} {args:List V} {a b:PV} {H:List AM.Obj} {K:V->List AM.Obj->Prop} (h:ACalls Tryz.prog g args [] fun x H'=>x= .tup [.p a,.p b]/\H'= []) (k:K (.tup [.p a,.p b]) H) (ha:Xb 0 args=true:=by rfl):ACalls Tryz.prog g args H K :=
 (h.behind ha H).mono fun x H' hq=>by
  obtain ⟨y,H1,⟨rfl,rfl⟩,rfl,rfl⟩:=hq
  grind [shV,shVs]
def Kl (n:Net) (p:Int):Bool:=decide (0<=p)&&decide (p<(n.places.length:Int))
theorem Gv (n:Net) (p:Int) (hn:n.places.length<=1048576):PC 318 [.p (Ai n),.p (.int .i64 p)] (.bool (Kl n p)):=by
 refine Zc Tryz.func318 rfl ZaL ?_;simp (disch:=omega) only [Tryz.f318,go_sem,seval];refine gT ?_ ?_<;>intro h<;>simp (disch:=omega) only [Sh.out h,go_sem,seval,↓reduceIte]
 ·simp [Kl,h]
 ·simp [Kl,h]
def W7 (pr f t:Int) (a:Arc):Bool:=decide (a.src=f)&&decide (a.dst=t)&&decide (a.prof=pr)
def VB : Arc:=⟨0,0,0,0,true,[],true,[]⟩
def Wo (n:Net) (pr f t:Int):Arc×Bool:=match n.arcs.find? (W7 pr f t) with | some a=>(a,true) | none=>(VB,false)
theorem La {n:Net} {pr f t:Int} {k:Nat} (hk:k<n.arcs.length) (hno: ∀j,j<k->W7 pr f t (nth n.arcs j)=false) (h:W7 pr f t (nth n.arcs k)=true):Wo n pr f t=(nth n.arcs k,true):=by
 have:n.arcs.find? (W7 pr f t)=some (nth n.arcs k):=by
  grind [List.find?_eq_some_iff_getElem,Zi]
 rw [Wo,this]
theorem Lb {n:Net} {pr f t:Int} (hno: ∀j,j<n.arcs.length->W7 pr f t (nth n.arcs j)=false):Wo n pr f t=(VB,false):=by
 have:n.arcs.find? (W7 pr f t)=none:=by
  rw [KN];intro a ha;obtain ⟨j,hj,rfl⟩:=ZD.1 ha
  grind [Zi]
 rw [Wo,this]
theorem bI (n:Net) (pr f t:Int) (hn:n.arcs.length<=1048576):PT 319 [.p (Ai n),.p (.int .i64 pr),.p (.int .i64 f),.p (.int .i64 t)] [.p (VW (Wo n pr f t).1),.p (.bool (Wo n pr f t).2)]:=by
 refine Ze [] Tryz.func319 rfl ZaM ?_;simp (disch:=omega) only [Tryz.f319,go_sem,seval];refine Zj [1,2,3,4,8] (fun k:Nat=> [(10,.p (.int .i64 k))]) (fun _=>ZW n++ [WJ VB]) (fun k=>k<=n.arcs.length/\ ∀j,j<k->W7 pr f t (nth n.arcs j)=false) (fun k=>n.arcs.length-k) 0 Zb (Weak.mk ?_) ?_
 ·simp (disch:=omega) only [ZW,WJ,VB,Zk,ZP,ZR,go_sem,seval]
 ·rintro k ⟨hk,hno⟩;simp (disch:=omega) only [ZW,WJ,VB,Zk,ZP,ZR,go_sem,seval];refine cD ?_ ?_<;>intro h<;>simp (disch:=omega) only [Sh.out h,go_sem,seval,↓reduceIte]
  ·have hk2:k<n.arcs.length:=Za
   have nx:W7 pr f t (nth n.arcs k)=false-> ∀j,j<k+1->W7 pr f t (nth n.arcs j)=false:=fun h=>Zn.2 ⟨hno,h⟩;refine US ?_ ?_<;>intro h1
   ·refine US ?_ ?_<;>intro h2
    ·refine ZH ?_ ?_<;>intro h3
     ·have e:=La hk2 hno (by grind [W7]);rw [e];exact we
     ·exact ⟨k+1,⟨Za,nx (by simp [W7,h3])⟩,Za,wk⟩
    ·exact ⟨k+1,⟨Za,nx (by simp [W7,h2])⟩,Za,wk⟩
   ·exact ⟨k+1,⟨Za,nx (by simp [W7,h1])⟩,Za,wk⟩
  ·have hkn:k=n.arcs.length:=Za
   subst hkn;rw [Lb hno];exact we (by simp (disch:=omega) only [VB,Zk,go_sem,seval])
def WX (n:Net) (pr f t τ:Int):Int×Int×Int :=
 if (Kl n f&&Kl n t)=false then (0,0,11) else if f=t then (τ,0,0) else if (Wo n pr f t).2=true then (ID (Wo n pr f t).1 τ,(Wo n pr f t).1.miles,0) else (0,0,12)
def netR (n:Net):Prop:=n.places.length<=1048576/\n.arcs.length<=1048576/\ ∀a∈n.arcs,jQ a
theorem Cf {n:Net} {pr f t:Int} (h:(Wo n pr f t).2=true):(Wo n pr f t).1∈n.arcs:=by
 grind [Wo]
theorem vE (n:Net) (pr f t τ:Int) (hn:netR n) (hτ:0<=τ/\τ<=1073741824):PT 307 [.p (Ai n),.p (.int .i64 pr),.p (.int .i64 f),.p (.int .i64 t),.p (.int .i64 τ)] [.p (.int .i64 (WX n pr f t τ).1),.p (.int .i64 (WX n pr f t τ).2.1),.p (.int .i64 (WX n pr f t τ).2.2)]:=by
 refine Ze [] Tryz.func307 rfl ZaA ?_;simp (disch:=omega) only [Tryz.f307,go_sem,seval];refine (Gv n f hn.1).use (Yv ?_);refine gF ?_ ?_<;>intro h1<;>simp (disch:=omega) only [Sh.out h1,go_sem,seval,↓reduceIte]
 ·have e:WX n pr f t τ=(0,0,11):=by grind [WX]
  rw [e];exact we
 ·simp only [Xt] at h1;refine (Gv n t hn.1).use (Yv ?_);refine cD ?_ ?_<;>intro h2<;>simp (disch:=omega) only [Sh.out h2,go_sem,seval]
  ·have e:WX n pr f t τ=(0,0,11):=by grind [WX]
   rw [e];exact we
  ·simp only [Xt] at h2;refine cD ?_ ?_<;>intro h3<;>simp (disch:=omega) only [Sh.out h3,go_sem,seval,↓reduceIte]
   ·have e:WX n pr f t τ=(τ,0,0):=by grind [WX]
    rw [e];exact we
   ·have cf:=bI n pr f t hn.2.1;have hm:= @Cf n pr f t
    have e0:WX n pr f t τ=if (Wo n pr f t).2=true then (ID (Wo n pr f t).1 τ,(Wo n pr f t).1.miles,0) else (0,0,12):=by grind [WX]
    rw [e0];generalize Wo n pr f t=A at cf hm ⊢;obtain ⟨a,b⟩:=A;simp only at cf hm ⊢;refine X0 cf (Yv ?_);refine cD ?_ ?_<;>intro h4<;>simp (disch:=omega) only [Sh.out h4,go_sem,seval]
    ·have hb:b=false:=by grind
     subst hb;exact we (by simp (disch:=omega) only [go_sem,seval,↓reduceIte])
    ·have hb:b=true:=by grind
     subst hb;refine Xd (Yv ?_);refine Zo (M0 a τ (hn.2.2 a (hm rfl)) hτ) (Yv ?_);exact we
theorem oQ (x:Inst) (pr f t τ:Int) (hn:netR x.net) (hτ:0<=τ/\τ<=1073741824):PT 284 [.p (Zs x),.p (.int .i64 pr),.p (.int .i64 f),.p (.int .i64 t),.p (.int .i64 τ)] [.p (.int .i64 (WX x.net pr f t τ).1),.p (.int .i64 (WX x.net pr f t τ).2.1),.p (.bool (decide ((WX x.net pr f t τ).2.2=0)))]:=by
 refine Ze [] Tryz.func284 rfl Zae ?_;simp (disch:=omega) only [Tryz.f284,go_sem,seval];refine GT (vE x.net pr f t τ hn hτ) (Yv ?_);exact we
structure StD where
 place:Int
 time:Int
 driven:Int
 miles:Int
def bB (s:StD):PV:= .agg [.int .i64 s.place,.int .i64 s.time,.int .i64 s.driven,.int .i64 s.miles]
@[go_sem] theorem ZjQ (s:StD):bB s= .agg [.int .i64 s.place,.int .i64 s.time,.int .i64 s.driven,.int .i64 s.miles]:=Zw rfl rfl
def EL (t:Typ) (s:StD) (b:Bool):StD:=if b=true then { s with time:=s.time+t.rest,driven:=0 } else s
theorem LX (t:Typ) (s:StD) (b:Bool) (hb: -1099511627776<=s.time/\s.time<=1099511627776/\ -1099511627776<=t.rest/\t.rest<=1099511627776):PC 249 [.p (Vr t),.p (bB s),.p (.bool b)] (bB (EL t s b)):=by
 refine Zc Tryz.func249 rfl zB ?_
 cases b with
 | true=>simp (disch:=omega) only [Tryz.f249,EL,go_sem,seval,↓reduceIte]
 | false=>simp (disch:=omega) only [Tryz.f249,EL,Yj,go_sem,seval,↓reduceIte]
def QV (x:Inst) (t:Typ) (s:StD) (to cl late:Int):StD×Int :=
 if ¬(WX x.net t.prof s.place to s.time).2.2=0 then (s,12)
 else if cl<(WX x.net t.prof s.place to s.time).1 then (s,late)
 else if t.drive<s.driven+(WX x.net t.prof s.place to s.time).1-s.time then (s,16)
 else (⟨to,(WX x.net t.prof s.place to s.time).1,s.driven+(WX x.net t.prof s.place to s.time).1-s.time,s.miles+(WX x.net t.prof s.place to s.time).2.1⟩,0)
def Tw (n:Int):Prop:= -1099511627776<=n/\n<=1099511627776
theorem Mt (x:Inst) (t:Typ) (s:StD) (to cl late:Int) (hn:netR x.net) (hs:0<=s.time/\s.time<=1073741824) (hd:Tw s.driven) (hm:Tw s.miles) (hg:Tw (WX x.net t.prof s.place to s.time).1/\Tw (WX x.net t.prof s.place to s.time).2.1) :
  PT 250 [.p (Zs x),.p (Vr t),.p (bB s),.p (.int .i64 to),.p (.int .i64 cl),.p (.int .i64 late)] [.p (bB (QV x t s to cl late).1),.p (.int .i64 (QV x t s to cl late).2)]:=by
 have cw:=oQ x t.prof s.place to s.time hn hs;unfold QV;generalize WX x.net t.prof s.place to s.time=g at cw hg ⊢;obtain ⟨a,m,e⟩:=g;unfold Tw at hd hm hg;simp only at cw hg ⊢;refine Ze [] Tryz.func250 rfl zC ?_;simp (disch:=omega) only [Tryz.f250,go_sem,seval];refine GT cw (Yv ?_);refine cD ?_ ?_<;>intro h1<;>simp (disch:=omega) only [Sh.out h1,go_sem,seval,↓reduceIte]
 ·exact we
 ·rw [if_neg h1];refine cD ?_ ?_<;>intro h2<;>simp (disch:=omega) only [Sh.out h2,go_sem,seval,↓reduceIte]
  ·exact we
  ·rw [if_neg h2];refine cD ?_ ?_<;>intro h3<;>simp (disch:=omega) only [Sh.out h3,go_sem,seval,↓reduceIte]
   ·exact we
   ·exact we
structure Lab where
 ready:Int
 since:Int
 she:She
 deriving Inhabited
def zShe : She:=⟨false,0,true,[],0,0⟩
def Wn : Lab:=⟨0,0,zShe⟩
def ZX (t:Typ) (L:Lab) (b:Bool):Int:=if b=true then L.ready+t.rest else L.ready
def WD (L:Lab) (b:Bool):Int:=if b=true then 0 else L.since
def Pj (l:List Tim) (k:Nat) (d:Int) (b:Bool):List Tim:=l.set k { nth l k with dep:=d,rest:=b }
def X5 (k:Nat) (d:Int) (b:Bool) (s:She):She:=if k=0 then { s with rest:=b,dep:=d } else { s with times:=Pj s.times (k-1) d b }
def Ug (t:Typ) (sp:List Stp) (k:Nat):Int:=if k=0 then t.src else (nth sp (k-1)).place
def S6 (t:Typ) (sp:List Stp) (k:Nat):Int:=if k=sp.length then t.dst else (nth sp k).place
def Wp (x:Inst) (t:Typ) (sp:List Stp) (k:Nat) (d:Int):Int×Int×Int:=WX x.net t.prof (Ug t sp k) (S6 t sp k) d
def WK (t:Typ) (sp:List Stp) (k:Nat) (g:Int×Int×Int) (d s:Int) (h:She):Lab×Int :=
 if ¬g.2.2=0 then (Wn,12)
 else if k=sp.length then
  if t.cls<g.1 then (Wn,15) else if t.drive<s+g.1-d then (Wn,16)
  else (⟨g.1,s+g.1-d,{ h with fin:=g.1,miles:=h.miles+g.2.1 }⟩,0)
 else if (nth sp k).cls<max g.1 (nth sp k).opn then (Wn,14)
 else if t.drive<s+g.1-d then (Wn,16)
 else (⟨max g.1 (nth sp k).opn+(nth sp k).serv,s+g.1-d,{ h with times_c:=false,times:=h.times++ [⟨g.1,max g.1 (nth sp k).opn,0,false⟩],miles:=h.miles+g.2.1 }⟩,0)
def nxtF (x:Inst) (t:Typ) (sp:List Stp) (k:Nat) (L:Lab) (b:Bool):Lab×Int :=
 WK t sp k (Wp x t sp k (ZX t L b)) (ZX t L b) (WD L b) (X5 k (ZX t L b) b L.she)
def XJ (x:Inst) (t:Typ) (sp:List Stp) (k:Nat) (L:Lab) (b:Bool):Option Lab:=if (nxtF x t sp k L b).2=0 then some (nxtF x t sp k L b).1 else none
def XG (x:Inst) (t:Typ) (sp:List Stp):Nat->Lab->List Bool->Lab×Int
 | _,L,[]=>(L,0)
 | k,L,b::bs=>if (nxtF x t sp k L b).2=0 then XG x t sp (k+1) (nxtF x t sp k L b).1 bs else (Wn,(nxtF x t sp k L b).2)
def labF (t:Typ) (st:Int):Lab:=⟨max t.opn st,0,zShe⟩
theorem VS {x:Inst} {t:Typ} {sp:List Stp} : ∀(bs:List Bool) (k:Nat) (L:Lab),Vm (XJ x t sp) k L bs=if (XG x t sp k L bs).2=0 then some (XG x t sp k L bs).1 else none
 | [],k,L=>by rfl
 | b::bs,k,L=>by
  rw [Vm,XG,XJ]
  by_cases h:(nxtF x t sp k L b).2=0
  ·simp only [h,if_true];exact VS bs (k+1) _
  ·simp [h]
structure TrpOk (x:Inst) (t:Typ) (sp:List Stp):Prop where
 net:netR x.net
 mil: ∀a∈x.net.arcs,0<=a.miles/\a.miles<=10000
 opn:0<=t.opn/\t.opn<=t.cls/\t.cls<=4096
 drv:1<=t.drive/\t.drive<=4096
 rst:0<=t.rest/\t.rest<=4096
 stp: ∀s∈sp,0<=s.opn/\s.opn<=s.cls/\s.cls<=4096/\0<=s.serv/\s.serv<=4096
 len:sp.length<=20
structure LabR (k:Nat) (L:Lab):Prop where
 rdy:0<=L.ready/\L.ready<=8192
 snc: -(12288*(k:Int))<=L.since/\L.since<=4096
 mil:0<=L.she.miles/\L.she.miles<=10000*(k:Int)
theorem HA {n:Net} {pr f t τ:Int} (hn:netR n) (hm: ∀a∈n.arcs,0<=a.miles/\a.miles<=10000) (hτ:0<=τ/\τ<=1073741824):(0<=(WX n pr f t τ).1/\(WX n pr f t τ).1<=1107369984)/\(0<=(WX n pr f t τ).2.1/\(WX n pr f t τ).2.1<=10000):=by
 unfold WX
 split
 ·simp
 ·split
  ·grind
  ·split
   ·rename_i h;have hA:=Cf h;have h1:=DR (hn.2.2 _ hA).1 hτ;have h2:=K9 (t:=τ) (fun p hp=>((hn.2.2 _ hA).2.2 p hp).2.2) _ (ZL _);have h3:=(hn.2.2 _ hA).2.1
    grind [ID]
   ·simp
theorem J3 {x t sp k L} (h:TrpOk x t sp) (hl:LabR k L) (b:Bool):0<=ZX t L b/\ZX t L b<=12288:=by
 have:=h.rst;have:=hl.rdy
 grind [ZX]
theorem E0 {k L} (hl:LabR k L) (b:Bool): -(12288*(k:Int))<=WD L b/\WD L b<=4096:=by
 have:=hl.snc
 grind [WD]
theorem Hz {x t sp k L} (h:TrpOk x t sp) (hl:LabR k L) (b:Bool):(0<=(Wp x t sp k (ZX t L b)).1/\(Wp x t sp k (ZX t L b)).1<=1107369984)/\(0<=(Wp x t sp k (ZX t L b)).2.1/\(Wp x t sp k (ZX t L b)).2.1<=10000):=by
 have:=J3 h hl b;exact HA h.net h.mil Za
theorem Ke {k d b s} :(X5 k d b s).miles=s.miles:=by grind [X5]
theorem Gk {k d b s} :(X5 k d b s).fin=s.fin:=by grind [X5]
theorem KZ {k d b s} :(X5 k d b s).times.length=s.times.length:=by grind [X5,Pj]
theorem HP {x t sp k L b} (h:TrpOk x t sp) (hk:k<=sp.length) (hl:LabR k L) (he:(nxtF x t sp k L b).2=0):LabR (k+1) (nxtF x t sp k L b).1:=by
 have h1:=J3 h hl b;have h2:=E0 hl b;obtain ⟨h3,h4⟩:=Hz h hl b;have h5:=hl.mil;have h6:=h.opn;have h7:=h.drv;have hm:(X5 k (ZX t L b) b L.she).miles=L.she.miles:=Ke;unfold nxtF at he ⊢
 generalize Wp x t sp k (ZX t L b)=g at *
 generalize ZX t L b=d at *
 generalize WD L b=s at *
 generalize X5 k d b L.she=m at *
 unfold WK at he ⊢
 split at he
 ·simp at he
 ·rename_i c1;rw [if_neg c1]
  split at he
  ·rename_i c2;rw [if_pos c2]
   split at he
   ·simp at he
   ·rename_i c3;rw [if_neg c3]
    split at he
    ·simp at he
    ·rename_i c4;rw [if_neg c4];exact ⟨by grind,by grind,by grind⟩
  ·rename_i c2;rw [if_neg c2];have h8:=h.stp _ (ZV (show k<sp.length by omega))
   split at he
   ·simp at he
   ·rename_i c3;rw [if_neg c3]
    split at he
    ·simp at he
    ·rename_i c4;rw [if_neg c4];exact ⟨by grind,by grind,by grind⟩
theorem Ey {x t sp k L b} (hl:L.she.times.length=k) (he:(nxtF x t sp k L b).2=0) (hk:k<sp.length):(nxtF x t sp k L b).1.she.times.length=k+1:=by
 have hm:(X5 k (ZX t L b) b L.she).times.length=L.she.times.length:=KZ;unfold nxtF at he ⊢
 generalize Wp x t sp k (ZX t L b)=g at *
 generalize ZX t L b=d at *
 generalize WD L b=s at *
 generalize X5 k d b L.she=m at *
 have hk2: ¬k=sp.length:=Za
 unfold WK at he ⊢
 grind
def Z9 (m x:Lab):Bool:=decide (m.ready=x.ready)&&decide (m.since<=x.since)
theorem M3 {x t sp k} {m y z:Lab} {b:Bool} (hb:Z9 m y=true) (hn:XJ x t sp k y b=some z): ∃u,XJ x t sp k m b=some u/\Z9 u z=true:=by
 simp only [Z9,ZG,Zl] at hb;obtain ⟨hb1,hb2⟩:=hb
 have hd:ZX t m b=ZX t y b:=by simp [ZX,hb1]
 have hs:WD m b<=WD y b:=by grind [WD]
 unfold XJ at hn ⊢;unfold nxtF at hn ⊢;rw [hd]
 generalize Wp x t sp k (ZX t y b)=g at *
 generalize ZX t y b=d at *
 generalize WD y b=s at *
 generalize WD m b=s2 at *
 generalize X5 k d b y.she=h1 at *
 generalize X5 k d b m.she=h2 at *
 unfold WK at hn ⊢
 by_cases c1:g.2.2=0
 ·by_cases c2:k=sp.length
  ·simp only [c1,c2,not_true,if_true,Ys] at hn ⊢
   by_cases c3:t.cls<g.1
   ·grind
   ·by_cases c4:t.drive<s+g.1-d
    ·grind
    ·have c5: ¬t.drive<s2+g.1-d:=Za
     simp only [c3,c4,Ys,if_true,XS] at hn;subst hn;refine ⟨_,by simp only [c3,c5,Ys,if_true];rfl,?_⟩;simp [Z9];omega
  ·simp only [c1,c2,not_true,Ys] at hn ⊢
   by_cases c3:(nth sp k).cls<max g.1 (nth sp k).opn
   ·grind
   ·by_cases c4:t.drive<s+g.1-d
    ·grind
    ·have c5: ¬t.drive<s2+g.1-d:=Za
     simp only [c3,c4,Ys,if_true,XS] at hn;subst hn;refine ⟨_,by simp only [c3,c5,Ys,if_true];rfl,?_⟩;simp [Z9];omega
 grind
def Wb (L:Lab):Int:=L.she.fin
theorem LO {x t sp} {y z:Lab} {b:Bool} (hn:XJ x t sp sp.length y b=some z):z.she.fin=z.ready:=by
 unfold XJ nxtF WK at hn
 grind
theorem Ge {x t sp} (ch:Nat->List Bool) (L:Lab):Vn Wb none (JH Z9 (XJ x t sp) ch (sp.length+1) 0 [L])=Vn Wb none (Ve (XJ x t sp) ch (sp.length+1) 0 L):=by
 have h:=Pc Wb Z9 (XJ x t sp) ch (n:=sp.length+1) (Inv:=fun k y=>k=sp.length+1->y.she.fin=y.ready)
  (fun k y b z _ hn hk=>by
   grind [LO]) (fun k m y b z _ _ hb hn=>M3 hb hn)
  (fun m y h1 h2 hb=>by
   simp only [Z9,ZG,Zl] at hb
   rw [Wb,Wb,h1 rfl,h2 rfl];omega) (sp.length+1) 0 [L] Za (fun y _ hk=>Za)
 rw [h];simp
def V8 (r:List Bool) (k:Nat):List Bool:=match r[k]? with | some b=> [b] | none=> [false,true]
theorem OR (r:List Bool) (n:Nat) (hn:r.length<=n): ∀(j k:Nat),k+j=r.length->Hv (V8 r) (n-k) k=(Y3 (List.replicate (n-r.length) false)).map (r.drop k++ ·)
 | 0,k,h=>by
  have hk:k=r.length:=Za
  subst hk;rw [I8 (n:=n) _ _ _ (fun q hq=>by grind [V8])];simp
 | j+1,k,h=>by
  have e:n-k=(n-(k+1))+1:=Za
  have hlt:k<r.length:=Za
  rw [e,Hv,OR r n hn j (k+1) Za]
  have:V8 r k= [r[k]]:=by simp [V8,hlt]
  rw [this,Ji,List.flatMap_nil,We,List.map_map,Wc hlt]
  rfl
theorem FY (r:List Bool) (n:Nat) (hn:r.length<=n):Hv (V8 r) n 0=(Y3 (List.replicate (n-r.length) false)).map (r++ ·):=by
 have:=OR r n hn r.length 0 Za
 grind
def YZ (r:List Bool) (n:Nat):List (List Bool):=(Y3 (List.replicate (n-r.length) false)).map (r++ ·)
def Y6 (r:List Bool) (n:Nat):List Bool:=r++List.replicate (n-r.length) false
def Up (x:Inst) (t:Typ) (sp:List Stp) (st:Int) (r:List Bool):She×Int :=
 match Vn Wb none ((YZ r (sp.length+1)).filterMap (Vm (XJ x t sp) 0 (labF t st))) with
 | some L=>(L.she,0)
 | none=>(zShe,(XG x t sp 0 (labF t st) (Y6 r (sp.length+1))).2)
theorem Hg {x t sp} {st:Int} {r:List Bool} (hr:r.length<=sp.length+1):Up x t sp st r=match Vn Wb none (JH Z9 (XJ x t sp) (V8 r) (sp.length+1) 0 [labF t st]) with
 | some L=>(L.she,0)
 | none=>(zShe,(XG x t sp 0 (labF t st) (Y6 r (sp.length+1))).2):=by
 rw [Ge,Ve,FY r _ hr];rfl
theorem L8 {x t sp} : ∀(bs:List Bool) (k:Nat) (L:Lab),L.she.times.length=k->k+bs.length=sp.length+1->0<bs.length->(XG x t sp k L bs).2=0->(XG x t sp k L bs).1.she.times.length=sp.length
 | [],k,L,h1,h2,h3,h=>by simp at h3
 | b::bs,k,L,h1,h2,_,h=>by
  rw [XG] at h ⊢
  by_cases h4:(nxtF x t sp k L b).2=0
  ·simp only [h4,if_true] at h ⊢
   cases bs with
   | nil =>
    simp at h2;subst h2;rw [XG];unfold nxtF at h4 ⊢;unfold WK at h4 ⊢
    split at h4
    ·simp at h4
    ·rename_i c1;rw [if_neg c1];simp only [if_true] at h4 ⊢
     split at h4
     ·simp at h4
     ·rename_i c2;rw [if_neg c2]
      split at h4
      ·simp at h4
      simp_all [if_neg,KZ]
   | cons b2 bs =>
    simp at h2;exact L8 (b2::bs) (k+1) _ (Ey h1 h4 Za) (by simp;omega) Zb h
  grind
theorem bestF_len {x t sp} {st:Int} {r:List Bool} (hr:r.length<=sp.length+1) (h:(Up x t sp st r).2=0):(Up x t sp st r).1.times.length=sp.length:=by
 unfold Up at h ⊢
 cases hf:Vn Wb none ((YZ r (sp.length+1)).filterMap (Vm (XJ x t sp) 0 (labF t st))) with
 | none =>
  rw [hf] at h;simp only at h ⊢;exfalso
  have hm:Y6 r (sp.length+1)∈YZ r (sp.length+1):=by
   grind [YZ,Y6,fromB_next]
  have h2:Vm (XJ x t sp) 0 (labF t st) (Y6 r (sp.length+1))=some (XG x t sp 0 (labF t st) (Y6 r (sp.length+1))).1:=by rw [VS,if_pos h]
  have h3:(XG x t sp 0 (labF t st) (Y6 r (sp.length+1))).1∈(YZ r (sp.length+1)).filterMap (Vm (XJ x t sp) 0 (labF t st)):=Bq.2 ⟨_,hm,h2⟩;generalize (YZ r (sp.length+1)).filterMap (Vm (XJ x t sp) 0 (labF t st))=l at hf h3
  cases l with
  | nil=>simp at h3
  | cons a l =>
   rw [Vn] at hf;obtain ⟨z,e,_⟩:=QF Wb l a
   grind
 | some L =>
  simp only;have hm:=fmL_mem _ _ hf;obtain ⟨bs,hbs,hrun⟩:=Bq.1 hm;rw [VS] at hrun
  split at hrun
  ·rename_i h5;simp at hrun;subst hrun;obtain ⟨q,hq,rfl⟩:=Xz.1 hbs;have hql:=fromB_len _ _ hq;simp at hql;exact L8 _ 0 _ rfl (by grind) (by grind) h5
  ·cases hrun
where
 fmL_mem: ∀(l:List Lab) (L:Lab),Vn Wb none l=some L->L∈l
 | [],L,h=>by simp [Vn] at h
 | a::l,L,h=>by
  rw [Vn] at h;exact fmL_mem2 l a L h
 fmL_mem2: ∀(l:List Lab) (a L:Lab),Vn Wb (some a) l=some L->L∈a::l
 | [],a,L,h=>by grind [Vn]
 | y::l,a,L,h=>by
  rw [Vn] at h
  split at h
  ·have:=fmL_mem2 l y L h;grind
  ·have:=fmL_mem2 l a L h;grind
 fromB_len: ∀(l q:List Bool),q∈Y3 l->q.length=l.length
 | [],q,h=>by grind [Y3]
 | b::bs,q,h=>by
  rw [Y3] at h
  split at h
  ·obtain ⟨q',hq,rfl⟩:=Xz.1 h;simp [fromB_len bs q' hq]
  ·rcases Xy.1 h with h | h
   ·obtain ⟨q',hq,rfl⟩:=Xz.1 h;simp [fromB_len bs q' hq]
   ·obtain ⟨q',hq,rfl⟩:=Xz.1 h;simp [fromB_len (List.replicate bs.length false) q' hq]
 termination_by l=>l.length
 decreasing_by all_goals simp
def XC (x:Inst) (v:Vis):Stp:=if v.drp=true then (nth x.orders v.order.toNat).drp else (nth x.orders v.order.toNat).pick
def Z8 (x:Inst) (l:List Vis):List Stp:=l.map (XC x)
def Wz (t:Typ) (s:Int):Bool:=decide (0<=t.skills)&&decide (0<=s)&&(List.range 63).all fun i=> !s.toNat.testBit i||t.skills.toNat.testBit i
def UX (a c:List Int):Bool:=decide (a.length=c.length)&&(List.range a.length).all fun i=>decide (nth a i<=nth c i)
def U3 (x:Inst) (c:List Int) (l:List Vis):Bool:=(List.range (l.length+1)).all fun n=>UX (Wa x l n) c
def Z0 (x:Inst) (r:Rte):Typ:=nth x.types r.typ.toNat
def Ux (l:List Vis) (i:Nat):Bool:= !((l.take i).any fun v=>decide (v.order=(nth l i).order))
def Xh (k t:Int):Bool:=decide (k≠ -1)&&decide (k≠t)
def chgF (x:Inst) (l:List Vis) (t:Int):Nat->Int×Int
 | 0=>(0,0)
 | n+1=>if Ux l n=true then ((chgF x l t n).1+(if Xh (nth x.orders (nth l n).order.toNat).now t=true then 1 else 0),(chgF x l t n).2+(if Xh (nth x.orders (nth l n).order.toNat).last t=true then 1 else 0)) else chgF x l t n
def Mf (x:Inst) (r:Rte) (s:She):Sco :=
 ⟨(Z0 x r).fixed+(Z0 x r).perMile*s.miles+(Z0 x r).perTick*(s.fin-(Z0 x r).opn),(chgF x r.visits r.typ r.visits.length).1,(chgF x r.visits r.typ r.visits.length).2,(s.fin-(Z0 x r).opn).tdiv 64*(s.fin-(Z0 x r).opn).tdiv 64⟩
def Yd (x:Inst) (r:Rte):Int :=
 if ¬(0<=r.typ/\r.typ<(x.types.length:Int)) then 2
 else if ¬Xm x r.visits=0 then Xm x r.visits
 else if (r.visits.any fun v=> !Wz (Z0 x r) (nth x.orders v.order.toNat).skills)=true then 18
 else if U3 x (Z0 x r).cap r.visits=false then 17
 else if ¬(0<=r.start/\r.start<=4096/\r.rests.length<=r.visits.length+1) then 2
 else 0
def XB (x:Inst) (r:Rte):She×Int:=Up x (Z0 x r) (Z8 x r.visits) r.start r.rests
def XI (x:Inst) (r:Rte):Int:=if Yd x r=0 then (XB x r).2 else Yd x r
def Uw (x:Inst) (r:Rte):She:=if XI x r=0 then (XB x r).1 else zShe
def J6 (x:Inst) (r:Rte):Sco:=if XI x r=0 then Mf x r (XB x r).1 else zSco
def ZbW : Stp:=⟨0,0,0,0⟩
def Ls (x:Inst) (v:Vis):Bool:=decide (0<=v.order)&&decide (v.order<(x.orders.length:Int))
def Ky (x:Inst) (v:Vis):Bool:=Ls x v&&decide (0<=(XC x v).place)
def BW (x:Inst) (v:Vis):Stp:=if Ls x v=true then XC x v else ZbW
theorem Mu (x:Inst) (v:Vis) (ho:x.orders.length<=1048576):PT 186 [.p (Zs x),.p (Z2 v)] [.p (D4 (BW x v)),.p (.bool (Ky x v))]:=by
 refine Ze [] Tryz.func186 rfl xO ?_;simp (disch:=omega) only [Tryz.f186,go_sem,seval];refine gF ?_ ?_<;>intro h1<;>simp (disch:=omega) only [Sh.out h1,go_sem,seval,↓reduceIte]
 ·have e:Ls x v=false:=by
   grind [Ls]
  simp only [BW,Ky,e,Jw,Yj,Ys,ZbW];exact we
 ·refine cD ?_ ?_<;>intro h2<;>simp (disch:=omega) only [Sh.out h2,go_sem,seval,↓reduceIte]
  ·have e:Ls x v=false:=by
    grind [Ls]
   simp only [BW,Ky,e,Jw,Yj,Ys,ZbW];exact we
  ·have e:Ls x v=true:=by simp [Ls];omega
   have hi:v.order.toNat<x.orders.length:=Za
   refine cD ?_ ?_<;>intro hd<;>simp (disch:=omega) only [Sh.out hd,go_sem,seval,↓reduceIte]
   ·have hG:BW x v=(nth x.orders v.order.toNat).drp:=by simp [BW,e,XC,hd]
    have hV:Ky x v=decide (0<=(nth x.orders v.order.toNat).drp.place):=by simp [Ky,e,XC,hd]
    rw [hG,hV];refine IN (.cons 0 (.cons 1 (.cons 2 (.cons 3 (.cons 4 (.cons 5 .nil .nil) .nil) (.cons 4 (.cons 3 (.cons 5 .nil .nil) .nil) .nil)) (.cons 4 (.cons 2 (.cons 3 (.cons 5 .nil .nil) .nil) .nil) .nil)) (.cons 4 (.cons 1 (.cons 2 (.cons 3 (.cons 5 .nil .nil) .nil) .nil) .nil) .nil)) (.cons 1 (.cons 0 (.cons 2 (.cons 3 (.cons 4 (.cons 5 .nil .nil) .nil) (.cons 4 (.cons 3 (.cons 5 .nil .nil) .nil) .nil)) (.cons 4 (.cons 2 (.cons 3 (.cons 5 .nil .nil) .nil) .nil) .nil)) (.cons 2 (.cons 0 (.cons 3 (.cons 4 (.cons 5 .nil .nil) .nil) (.cons 4 (.cons 3 (.cons 5 .nil .nil) .nil) .nil)) (.cons 3 (.cons 0 (.cons 4 (.cons 5 .nil .nil) .nil) .nil) .nil)) .nil)) .nil)) mixed Zd ?_
    refine Yv ?_
    repeat' first
     | refine FI ?_ ?_
     | exact we
     | simp (disch:=omega) only [go_sem,seval,↓reduceIte]
   ·have hG:BW x v=(nth x.orders v.order.toNat).pick:=by simp [BW,e,XC,hd]
    have hV:Ky x v=decide (0<=(nth x.orders v.order.toNat).pick.place):=by simp [Ky,e,XC,hd]
    rw [hG,hV];refine IN (.cons 0 (.cons 1 (.cons 2 (.cons 3 (.cons 4 (.cons 5 .nil .nil) .nil) (.cons 4 (.cons 3 (.cons 5 .nil .nil) .nil) .nil)) (.cons 4 (.cons 2 (.cons 3 (.cons 5 .nil .nil) .nil) .nil) .nil)) (.cons 4 (.cons 1 (.cons 2 (.cons 3 (.cons 5 .nil .nil) .nil) .nil) .nil) .nil)) (.cons 1 (.cons 0 (.cons 2 (.cons 3 (.cons 4 (.cons 5 .nil .nil) .nil) (.cons 4 (.cons 3 (.cons 5 .nil .nil) .nil) .nil)) (.cons 4 (.cons 2 (.cons 3 (.cons 5 .nil .nil) .nil) .nil) .nil)) (.cons 2 (.cons 0 (.cons 3 (.cons 4 (.cons 5 .nil .nil) .nil) (.cons 4 (.cons 3 (.cons 5 .nil .nil) .nil) .nil)) (.cons 3 (.cons 0 (.cons 4 (.cons 5 .nil .nil) .nil) .nil) .nil)) .nil)) .nil)) mixed Zd ?_
    refine Yv ?_
    repeat' first
     | refine FI ?_ ?_
     | exact we
     | simp (disch:=omega) only [go_sem,seval,↓reduceIte]
def VR (x:Inst) (r:Rte):Bool:=(decide (0<=r.typ)&&decide (r.typ<(x.types.length:Int))&&decide (0<=r.start)&&decide (r.start<=4096)&&decide (r.visits.length<=20))&&r.visits.all (Ky x)
theorem EG (x:Inst) (r:Rte) (ho:x.orders.length<=1048576) (ht:x.types.length<=1048576) (hl:r.visits.length<=1048576):PC 141 [.p (Zs x),.p (YJ r)] (.bool (VR x r)):=by
 refine Zc Tryz.func141 rfl wK ?_;simp (disch:=omega) only [Tryz.f141,go_sem,seval];refine gF ?_ ?_<;>intro h1<;>simp (disch:=omega) only [Sh.out h1,go_sem,seval,↓reduceIte]
 ·simp [VR];omega
 ·refine gF ?_ ?_<;>intro h2<;>simp (disch:=omega) only [Sh.out h2,go_sem,seval,↓reduceIte]
  ·simp [VR];omega
  ·refine gF ?_ ?_<;>intro h3<;>simp (disch:=omega) only [Sh.out h3,go_sem,seval,↓reduceIte]
   ·simp [VR];omega
   ·refine gF ?_ ?_<;>intro h4<;>simp (disch:=omega) only [Sh.out h4,go_sem,seval,↓reduceIte]
    ·simp [VR];omega
    ·refine cD ?_ ?_<;>intro h5<;>simp (disch:=omega) only [Sh.out h5,go_sem,seval]
     ·simp [VR];omega
     ·refine Zj [2,3] (fun k:Nat=> [(5,.p (.int .i64 k))]) (fun _=> [Zg x,Z5 r]) (fun k=>k<=r.visits.length/\ ∀j,j<k->Ky x (nth r.visits j)=true) (fun k=>r.visits.length-k) 0 Zb (Weak.mk ?_) ?_
      ·simp (disch:=omega) only [Zg,Z5,go_sem,seval]
      ·rintro k ⟨hk,hno⟩;refine C2 ?_;refine cD ?_ ?_<;>intro h<;>simp (disch:=omega) only [Sh.out h,go_sem,seval,↓reduceIte]
       ·have hk2:k<r.visits.length:=Za
        refine Xc [10,11] 12 mixed Zd Zd Zd Zb (Yv ?_);refine WW (Mu x (nth r.visits k) ho) (Yv ?_);refine ZU 10 _ _ Zd (by refine Yv ?_;exact ⟨rfl,rfl⟩) ?_;refine Yv ?_;refine ZU 11 _ _ Zd (by refine Yv ?_;exact ⟨rfl,rfl⟩) (Yg ?_);refine Yv ?_;refine ZH ?_ ?_<;>intro h6
        ·grind [Zq,VR]
        ·exact ⟨k+1,⟨Za,Zn.2 ⟨hno,by grind⟩⟩,Za,wk⟩
       ·have hkl:k=r.visits.length:=Za
        subst hkl
        have:r.visits.all (Ky x)=true:=by
         rw [ZC];intro v hv;obtain ⟨j,hj,rfl⟩:=ZD.1 hv
         grind [Zi]
        grind [VR]
@[go_sem high] theorem ZjA {k k':IntKind} {a b:Int} :G7 false [.p (.int k a),.p (.int k' b)]=some (.int k (max a b)):=by
 grind [G7]
theorem NA {l:List Tim} {m:Tim} {d:Int} {b:Bool} :Pj (l++ [m]) l.length d b=l++ [{ m with dep:=d,rest:=b }]:=by
 grind [Zi,Pj]
theorem S1 {x:Inst} {t:Typ} {sp:List Stp} {k:Nat} {d s m:Int} {h:She} (hk:k<sp.length) (ho:(nth sp k).opn<=(nth sp k).cls) (hm:h.miles=m) :
  (QV x t ⟨Ug t sp k,d,s,m⟩ (nth sp k).place (nth sp k).cls 14).2=(WK t sp k (Wp x t sp k d) d s h).2 /\
  ((WK t sp k (Wp x t sp k d) d s h).2=0->(QV x t ⟨Ug t sp k,d,s,m⟩ (nth sp k).place (nth sp k).cls 14).1=⟨(nth sp k).place,(Wp x t sp k d).1,s+(Wp x t sp k d).1-d,m+(Wp x t sp k d).2.1⟩ /\
   (WK t sp k (Wp x t sp k d) d s h).1=⟨max (Wp x t sp k d).1 (nth sp k).opn+(nth sp k).serv,s+(Wp x t sp k d).1-d,{ h with times_c:=false,times:=h.times++ [⟨(Wp x t sp k d).1,max (Wp x t sp k d).1 (nth sp k).opn,0,false⟩],miles:=m+(Wp x t sp k d).2.1 }⟩):=by
 have hne: ¬k=sp.length:=Za
 have e:WX x.net t.prof (Ug t sp k) (nth sp k).place d=Wp x t sp k d:=by simp [Wp,S6,hne]
 unfold QV WK
 grind
theorem S4 {x:Inst} {t:Typ} {sp:List Stp} {d s m:Int} {h:She} (hm:h.miles=m) :
  (QV x t ⟨Ug t sp sp.length,d,s,m⟩ t.dst t.cls 15).2=(WK t sp sp.length (Wp x t sp sp.length d) d s h).2 /\
  ((WK t sp sp.length (Wp x t sp sp.length d) d s h).2=0->(QV x t ⟨Ug t sp sp.length,d,s,m⟩ t.dst t.cls 15).1=⟨t.dst,(Wp x t sp sp.length d).1,s+(Wp x t sp sp.length d).1-d,m+(Wp x t sp sp.length d).2.1⟩ /\
   (WK t sp sp.length (Wp x t sp sp.length d) d s h).1=⟨(Wp x t sp sp.length d).1,s+(Wp x t sp sp.length d).1-d,{ h with fin:=(Wp x t sp sp.length d).1,miles:=m+(Wp x t sp sp.length d).2.1 }⟩):=by
 have e:WX x.net t.prof (Ug t sp sp.length) t.dst d=Wp x t sp sp.length d:=by simp [Wp,S6]
 unfold QV WK
 grind
def ZbE (s:StD):AM.Obj:= .cells [.p (.int .i64 s.place),.p (.int .i64 s.time),.p (.int .i64 s.driven),.p (.int .i64 s.miles)]
def QD (t:Typ) (sp:List Stp) (k:Nat) (L:Lab) (b:Bool):StD:=⟨Ug t sp k,ZX t L b,WD L b,L.she.miles⟩
theorem Zi8 {g:FuncId} {args:List V} {a c:PV} {H:List AM.Obj} {K:V->List AM.Obj->Prop} (h:ACalls Tryz.prog g args [] fun x H'=> ∃b:PV,x= .tup [.p a,.p b,.p c]/\H'= []) (k: ∀b:PV,K (.tup [.p a,.p b,.p c]) H) (ha:Xb 0 args=true:=by rfl):ACalls Tryz.prog g args H K :=
 (h.behind ha H).mono fun x H' hq=>by
  obtain ⟨y,H1,⟨b,rfl,rfl⟩,rfl,rfl⟩:=hq
  grind [shV,shVs]
theorem Yu {x:Inst} {l:List Vis} :(Z8 x l).length=l.length:=by simp [Z8]
theorem E2 {x:Inst} {l:List Vis} {k:Nat} (h:k<l.length):nth (Z8 x l) k=XC x (nth l k):=by
 grind [Zi,Z8]
theorem Kw {P Q:Prop} (h:Q) (e:Q->P:=by intro h;simp (disch:=omega) only [ZN,Zk,X2,Xj,go_sem,seval];exact h):P:=e h
theorem nO (x:Inst) (r:Rte) (rests:List Bool) (c:Bool) (hok:TrpOk x (Z0 x r) (Z8 x r.visits)) (ho:x.orders.length<=1048576) (ht:x.types.length<=1048576) (hne:0<r.visits.length) (hp:VR x r=true) (hl:rests.length=r.visits.length+1) :
  ACalls Tryz.prog 187 [.p (Zs x),.p (YJ r),.p (.list c (rests.map eB))] [] fun y H'=> ∃d:PV,y= .tup [.p (D2 (XG x (Z0 x r) (Z8 x r.visits) 0 (labF (Z0 x r) r.start) rests).1.she),.p d,.p (.int .i64 (XG x (Z0 x r) (Z8 x r.visits) 0 (labF (Z0 x r) r.start) rests).2)]/\H'= []:=by
 have hp2:=hp;simp only [VR,ZG,Zl] at hp2;obtain ⟨⟨⟨⟨⟨p1,p2⟩,p3⟩,p4⟩,p5⟩,p6⟩:=hp2;have hvis: ∀k,k<r.visits.length->Ky x (nth r.visits k)=true:=fun k hk=>ZC.1 p6 _ (Zq hk)
 have hstop: ∀k,k<r.visits.length->BW x (nth r.visits k)=nth (Z8 x r.visits) k:=fun k hk=>by
  simp_all [Ky,BW,E2]
 have hti:r.typ.toNat<x.types.length:=Za
 have hopn:=hok.opn;have hrst:=hok.rst;have htd:Z0 x r=nth x.types r.typ.toNat:=rfl
 generalize hT:Z0 x r=t at *
 have hsl:(Z8 x r.visits).length=r.visits.length:=Yu
 generalize hS:Z8 x r.visits=sp at *
 refine Ze [26] Tryz.func187 rfl xP ?_;simp (disch:=omega) only [Tryz.f187,go_sem,seval];refine (EG x r ho ht Za).use (Yv ?_);rw [hp];refine Yv ?_;refine cD ?_ ?_<;>intro h0<;>simp (disch:=omega) only [Sh.out h0,<- htd,go_sem,seval,↓reduceIte]
 ·omega
 ·refine Xc [13] 14 mixed Zd Zd Zd Zb (Yv ?_);refine Zo (LX t ⟨t.src,max t.opn r.start,0,0⟩ (nth rests 0) (by grind)) (Yv ?_);refine ZU 13 _ _ Zd (by refine Yv ?_;exact ⟨rfl,rfl⟩) (Yg ?_);refine Yv ?_;refine Xc [6] 7 mixed Zd Zd Zd Zb (Yv ?_);refine ZU 6 _ _ Zd (by refine Yv ?_;exact ⟨rfl,rfl⟩) (Yg ?_);refine Yv ?_;have hL0:LabR 0 (labF t r.start):=⟨by grind [labF],by simp [labF],by simp [labF,zShe]⟩
  have hS0:EL t ⟨t.src,max t.opn r.start,0,0⟩ (nth rests 0)=QD t sp 0 (labF t r.start) (nth rests 0):=by
   simp only [EL,QD,Ug,ZX,WD,labF,zShe,if_true]
   split<;>rfl
  simp (disch:=omega) only [hS0,go_sem,seval]
  refine ZS [26] [2,3,4,6,9,10,11] (fun q:Nat×Lab×List Int=> [(12,.sl 7 0 q.2.2.length q.2.2.length),(13,.p (.int .i64 q.1))])
   (fun q=> [Zg x,Z5 r,.cells [.p (.bool false),.p (.int .i64 0),.p (.list true []),.p (.int .i64 0),.p (.int .i64 0)],XV t,ZbE (QD t sp q.1 q.2.1 (nth rests q.1)),
    .cells [.p (.bool (X5 q.1 (ZX t q.2.1 (nth rests q.1)) (nth rests q.1) q.2.1.she).rest),.p (.int .i64 (X5 q.1 (ZX t q.2.1 (nth rests q.1)) (nth rests q.1) q.2.1.she).dep),.sl 6 0 (X5 q.1 (ZX t q.2.1 (nth rests q.1)) (nth rests q.1) q.2.1.she).times.length (X5 q.1 (ZX t q.2.1 (nth rests q.1)) (nth rests q.1) q.2.1.she).times.length,.p (.int .i64 0),.p (.int .i64 0)],
    .elems 4 ((X5 q.1 (ZX t q.2.1 (nth rests q.1)) (nth rests q.1) q.2.1.she).times.map eTim),.elems 1 (q.2.2.map eI)])
   (fun q=>q.1<=r.visits.length/\XG x t sp 0 (labF t r.start) rests=XG x t sp q.1 q.2.1 (rests.drop q.1)/\LabR q.1 q.2.1/\q.2.1.she.times.length=q.1/\q.2.1.she.fin=0/\(0<q.1->q.2.1.she.times_c=false)/\q.2.2.length=q.1) (fun q=>r.visits.length-q.1) (0,labF t r.start,[])
   ⟨Zb,Zb,hL0,by rfl,by rfl,Zb,Zb⟩ ((Weak.nilC (o:=5) (j:=2) 4 rfl rfl Zb).trans (Weak.ofNil 12 1 rfl Zb (Weak.mk ?_))) ?_
  ·simp (disch:=omega) only [Zg,Z5,XV,ZbE,QD,Ug,X5,labF,zShe,Zk,ZQ,X2,Xj,ZP,ZR,go_sem,seval]
  ·rintro ⟨k,L,ds⟩ ⟨hk,hrun,hL,hlen,hfin,hclip,hds⟩;simp only at hk hrun hL hlen hfin hclip hds
   have hmlen:(X5 k (ZX t L (nth rests k)) (nth rests k) L.she).times.length=k:=by grind [KZ]
   have hd:=J3 hok hL (nth rests k);have hs:=E0 hL (nth rests k);have hg:=Hz hok hL (nth rests k);have hmi:=hL.mil
   generalize hm:X5 k (ZX t L (nth rests k)) (nth rests k) L.she=m at *
   have hmm:m.miles=L.she.miles:=by rw [<- hm,Ke]
   have hmf:m.fin=0:=by grind [Gk]
   have hdrop:rests.drop k=nth rests k::rests.drop (k+1):=by grind [Wc,Zi]
   have hnx:nxtF x t sp k L (nth rests k)=WK t sp k (Wp x t sp k (ZX t L (nth rests k))) (ZX t L (nth rests k)) (WD L (nth rests k)) m:=by rw [nxtF,hm]
   rw [hdrop,XG] at hrun;simp (disch:=omega) only [Zg,Z5,XV,ZbE,go_sem,seval];refine cD ?_ ?_<;>intro h<;>simp (disch:=omega) only [Sh.out h,go_sem,seval,↓reduceIte]
   ·have hk2:k<r.visits.length:=Za
    have hsp:=hok.stp _ (ZV (show k<sp.length by omega));refine Xc [10,11] 12 mixed Zd Zd Zd Zb (Yv ?_);refine WW (Mu x (nth r.visits k) ho) (Yv ?_);refine ZU 10 _ _ Zd (by refine Yv ?_;exact ⟨rfl,rfl⟩) ?_;refine Yv ?_;refine ZU 11 _ _ Zd (by refine Yv ?_;exact ⟨rfl,rfl⟩) (Yg ?_);simp (disch:=omega) only [hstop k hk2,go_sem,seval];obtain ⟨f1,f2⟩:=S1 (x:=x) (t:=t) (d:=ZX t L (nth rests k)) (s:=WD L (nth rests k)) (h:=m) (show k<sp.length by omega) hsp.2.1 hmm
    have he2:WX x.net t.prof (Ug t sp k) (nth sp k).place (ZX t L (nth rests k))=Wp x t sp k (ZX t L (nth rests k)):=by
     grind [Wp,S6]
    refine X0 (Mt x t (QD t sp k L (nth rests k)) (nth sp k).place (nth sp k).cls 14 hok.net ?_ ?_ ?_ ?_) ?_
    ·grind [QD]
    ·grind [QD,Tw]
    ·grind [QD,Tw]
    ·grind [QD,Tw]
    have f1':(QV x t (QD t sp k L (nth rests k)) (nth sp k).place (nth sp k).cls 14).2=(nxtF x t sp k L (nth rests k)).2:=by rw [hnx,<- f1];rfl
    refine Yv ?_;rw [f1'];refine cD ?_ ?_<;>intro h3<;>simp (disch:=omega) only [Sh.out h3,go_sem,seval,↓reduceIte]
    ·rw [if_neg h3] at hrun;rw [hrun];simp only [Wn,zShe];exact ⟨_,_,Weak.mk (by simp (disch:=omega) only [Zk,go_sem,seval]),.list true [],rfl,rfl⟩
    ·have h3':(nxtF x t sp k L (nth rests k)).2=0:=Xk.1 h3;rw [if_pos h3'] at hrun;have hL':=HP hok Za hL h3';rw [hnx] at h3';obtain ⟨f3,f4⟩:=f2 h3';have f3':(QV x t (QD t sp k L (nth rests k)) (nth sp k).place (nth sp k).cls 14).1=⟨(nth sp k).place,(Wp x t sp k (ZX t L (nth rests k))).1,WD L (nth rests k)+(Wp x t sp k (ZX t L (nth rests k))).1-ZX t L (nth rests k),L.she.miles+(Wp x t sp k (ZX t L (nth rests k))).2.1⟩:=f3
     have hL2:(nxtF x t sp k L (nth rests k)).1=⟨max (Wp x t sp k (ZX t L (nth rests k))).1 (nth sp k).opn+(nth sp k).serv,WD L (nth rests k)+(Wp x t sp k (ZX t L (nth rests k))).1-ZX t L (nth rests k),{ m with times_c:=false,times:=m.times++ [⟨(Wp x t sp k (ZX t L (nth rests k))).1,max (Wp x t sp k (ZX t L (nth rests k))).1 (nth sp k).opn,0,false⟩],miles:=L.she.miles+(Wp x t sp k (ZX t L (nth rests k))).2.1 }⟩:=by grind
     simp (disch:=omega) only [f3',go_sem,seval];refine Xc [13] 14 mixed Zd Zd Zd Zb (Yv ?_);refine ZU 13 _ _ Zd (by refine Yv ?_;exact ⟨rfl,rfl⟩) (Yg ?_);refine Yv ?_
     generalize (nxtF x t sp k L (nth rests k)).1=L2 at *
     have hS1:EL t ⟨(nth sp k).place,max (Wp x t sp k (ZX t L (nth rests k))).1 (nth sp k).opn+(nth sp k).serv,WD L (nth rests k)+(Wp x t sp k (ZX t L (nth rests k))).1-ZX t L (nth rests k),L.she.miles+(Wp x t sp k (ZX t L (nth rests k))).2.1⟩ (nth rests (k+1))=QD t sp (k+1) L2 (nth rests (k+1)):=by
      rw [hL2];simp only [EL,QD,Ug,ZX,WD,Nat.add_sub_cancel,if_neg (show ¬k+1=0 by omega)]
      split<;>rfl
     have hM:X5 (k+1) (ZX t L2 (nth rests (k+1))) (nth rests (k+1)) L2.she= { m with times_c:=false,times:=m.times++ [⟨(Wp x t sp k (ZX t L (nth rests k))).1,max (Wp x t sp k (ZX t L (nth rests k))).1 (nth sp k).opn,ZX t L2 (nth rests (k+1)),nth rests (k+1)⟩],miles:=L.she.miles+(Wp x t sp k (ZX t L (nth rests k))).2.1 } :=by
      have he:L2.she= { m with times_c:=false,times:=m.times++ [⟨(Wp x t sp k (ZX t L (nth rests k))).1,max (Wp x t sp k (ZX t L (nth rests k))).1 (nth sp k).opn,0,false⟩],miles:=L.she.miles+(Wp x t sp k (ZX t L (nth rests k))).2.1 } :=by rw [hL2]
      rw [he,X5,if_neg Za,Nat.add_sub_cancel]
      grind [NA]
     have hd2:=J3 hok hL' (nth rests (k+1));refine Z1 8 mixed Zd Zd (Yv ?_);refine Zo (LX t ⟨(nth sp k).place,max (Wp x t sp k (ZX t L (nth rests k))).1 (nth sp k).opn+(nth sp k).serv,WD L (nth rests k)+(Wp x t sp k (ZX t L (nth rests k))).1-ZX t L (nth rests k),L.she.miles+(Wp x t sp k (ZX t L (nth rests k))).2.1⟩ (nth rests (k+1)) (by grind)) (Yv ?_);simp (disch:=omega) only [hS1,go_sem,seval];refine ⟨(k+1,L2,ds++ [L2.since]),⟨Za,hrun,hL',by grind,by grind,by grind,by simp [hds]⟩,Za,Weak.mk ?_⟩
     simp (disch:=omega) only [hM,hmlen,Zm,Zz,ZQ,Xi,ZN,Zk,go_sem,seval];exact ⟨rfl,by grind⟩
   ·have hkl:k=sp.length:=Za
    subst hkl;obtain ⟨f1,f2⟩:=S4 (x:=x) (t:=t) (sp:=sp) (d:=ZX t L (nth rests sp.length)) (s:=WD L (nth rests sp.length)) (h:=m) hmm
    have he2:WX x.net t.prof (Ug t sp sp.length) t.dst (ZX t L (nth rests sp.length))=Wp x t sp sp.length (ZX t L (nth rests sp.length)):=by simp [Wp,S6]
    refine X0 (Mt x t (QD t sp sp.length L (nth rests sp.length)) t.dst t.cls 15 hok.net ?_ ?_ ?_ ?_) ?_
    ·grind [QD]
    ·grind [QD,Tw]
    ·grind [QD,Tw]
    ·grind [QD,Tw]
    have f1':(QV x t (QD t sp sp.length L (nth rests sp.length)) t.dst t.cls 15).2=(nxtF x t sp sp.length L (nth rests sp.length)).2:=by rw [hnx,<- f1];rfl
    refine Yv ?_;rw [f1'];have hdl:rests.drop (sp.length+1)= []:=KJ Za;rw [hdl,XG] at hrun;refine cD ?_ ?_<;>intro h3<;>simp (disch:=omega) only [Sh.out h3,go_sem,seval,↓reduceIte]
    ·rw [if_neg h3] at hrun;rw [hrun];simp only [Wn,zShe];exact ⟨_,_,Weak.mk (by simp (disch:=omega) only [Zk,go_sem,seval]),.list true [],rfl,rfl⟩
    ·have h3':(nxtF x t sp sp.length L (nth rests sp.length)).2=0:=Xk.1 h3;rw [if_pos h3'] at hrun;rw [hnx] at h3';obtain ⟨f3,f4⟩:=f2 h3';have f3':(QV x t (QD t sp sp.length L (nth rests sp.length)) t.dst t.cls 15).1=⟨t.dst,(Wp x t sp sp.length (ZX t L (nth rests sp.length))).1,WD L (nth rests sp.length)+(Wp x t sp sp.length (ZX t L (nth rests sp.length))).1-ZX t L (nth rests sp.length),L.she.miles+(Wp x t sp sp.length (ZX t L (nth rests sp.length))).2.1⟩:=f3;rw [hrun,hnx,f4];simp (disch:=omega) only [f3',go_sem,seval];refine Zp (Weak.fz (o:=6) (by rfl)) ?_
     refine Zp (Weak.fz (o:=7) (by rfl)) (Zf [] _ _ _ _ (Kw ?_))
     have hmc:m.times_c=false:=by
      grind [X5]
     exact ⟨_,_,Weak.mk (by simp (disch:=omega) only [hmc,go_sem,seval]),.list false (ds.map eI++ [.int .i64 (WD L (nth rests sp.length)+(Wp x t sp sp.length (ZX t L (nth rests sp.length))).1-ZX t L (nth rests sp.length))]),rfl,rfl⟩
theorem jF (x:Inst) (r:Rte) (rests:List Bool) (c:Bool) (hok:TrpOk x (Z0 x r) (Z8 x r.visits)) (ho:x.orders.length<=1048576) (ht:x.types.length<=1048576) (hne:0<r.visits.length) (hp:VR x r=true) (hl:rests.length=r.visits.length+1) :
  PT 142 [.p (Zs x),.p (YJ r),.p (.list c (rests.map eB))] [.p (D2 (XG x (Z0 x r) (Z8 x r.visits) 0 (labF (Z0 x r) r.start) rests).1.she),.p (.int .i64 (XG x (Z0 x r) (Z8 x r.visits) 0 (labF (Z0 x r) r.start) rests).2)]:=by
 have cr:=nO x r rests c hok ho ht hne hp hl;generalize (XG x (Z0 x r) (Z8 x r.visits) 0 (labF (Z0 x r) r.start) rests)=q at cr ⊢;obtain ⟨L,e⟩:=q;refine Ze [] Tryz.func142 rfl wL ?_;simp (disch:=omega) only [Tryz.f142,go_sem,seval];refine Zi8 cr fun d=>Yv ?_;exact we
def CW (l:List Bool) (n:Nat):Option (List Bool):=(Yb (l.drop n)).map (l.take n++ ·)
def NH : Option (List Bool)->PV
 | some l=> .list false (l.map eB)
 | none=> .list true []
theorem Kg : ∀m:Nat,Yb (List.replicate m true)=none
 | 0=>rfl
 | m+1=>by rw [Jh,Yb,Kg m];rfl
theorem Gn : ∀(a b r:List Bool),Yb b=some r->Yb (a++b)=some (a++r)
 | [],b,r,h=>h
 | x::a,b,r,h=>by rw [ZP,Yb,Gn a b r h];rfl
theorem dV (a:List Bool) (m:Nat):Yb (a++false::List.replicate m true)=some (a++true::List.replicate m false):=by
 grind [Gn,Yb,Kg]
theorem Ml {o:List Bool} {i:Nat} {b:Bool} :(o.map eB).set i (.bool b)=(o.set i b).map eB:=by rw [V4];rfl
theorem dU (l:List Bool) (c:Bool) (n:Nat) (hn:n<=l.length) (h0:0<l.length) (hl:l.length<=1048576):PT 143 [.p (.list c (l.map eB)),.p (.int .i64 (n:Nat))] [.p (NH (CW l n)),.p (.bool (CW l n).isSome)]:=by
 refine Ze [8] Tryz.func143 rfl wM ?_;simp (disch:=omega) only [Tryz.f143,go_sem,seval];rw [if_pos ⟨Za,Za⟩];refine Yv ?_;refine ZS [8] [1] (fun q:Nat×List Bool=> [(6,.sl 0 0 q.2.length q.2.length),(7,.p (.int .i64 ((q.1:Int)-1)))]) (fun q=> [.elems 1 (q.2.map eB)]) (fun q=>n<=q.1/\q.1<=l.length/\q.2=l.take q.1++List.replicate (l.length-q.1) false/\l.drop q.1=List.replicate (l.length-q.1) true) (fun q=>q.1) (l.length,l) (by simp;omega) (Weak.mk ?_) ?_
 ·simp (disch:=omega) only [go_sem,seval]
 ·rintro ⟨j,o⟩ ⟨hj1,hj2,ho,hjt⟩;simp only at hj1 hj2 ho hjt
  have hol:o.length=l.length:=by grind
  refine Yv ?_;refine cD ?_ ?_<;>intro h<;>simp (disch:=omega) only [Sh.out h,go_sem,seval,↓reduceIte]
  ·obtain ⟨i,rfl⟩: ∃i,j=i+1:=⟨j-1,Za⟩
   have hij:(((i+1:Nat):Int)-1)=(i:Int):=Za
   have hat:nth o i=nth l i:=by
    grind [Zi]
   have MN:l.drop i=nth l i::List.replicate (l.length-(i+1)) true:=by
    grind [Wc,Zi]
   have hio:i<o.length:=Za
   simp (disch:=first | omega | (simp only [Zz,ZQ,Zm,Zu,Zy,ZK]<;>omega)) only [Int.add_sub_cancel,Yx,hat,hio,go_sem,seval,↓reduceIte];refine cD ?_ ?_<;>intro h2<;>simp (disch:=omega) only [Sh.out h2,go_sem,seval]
   ·have hf:nth l i=false:=by grind
    have hres:CW l n=some (o.set i true):=by
     rw [hf] at MN
     have e:l.drop n=(l.drop n).take (i-n)++false::List.replicate (l.length-(i+1)) true:=by
      rw [<- MN,show l.drop i=(l.drop n).drop (i-n) by simp_all,List.take_append_drop]
     rw [CW,e,dV,ho];simp only [KT,XS]
     have e2:l.take (i+1)=l.take n++(l.drop n).take (i-n)++ [nth l i]:=by
      rw [ZE Za,Zi Za]
      congr 1
      have:l.take i=l.take (n+(i-n)):=by congr 1;omega
      grind
     rw [e2,hf]
     have el:(l.take n++(l.drop n).take (i-n)).length=i:=by simp;omega
     rw [UC (l.take n++(l.drop n).take (i-n)),List.set_append_right _ _ Za,el];simp
    rw [hres];simp (disch:=first | omega | (simp only [Zz,ZQ,Zm,Zu,Zy,ZK]<;>omega)) only [Ml,go_sem,seval,↓reduceIte];refine Zp (Weak.fz (o:=0) (by rfl)) ?_;refine Zf [] _ _ _ _ ?_;simp (disch:=omega) only [ZN,Zk,Xj,go_sem,seval];simp only [KS,if_true];exact we (by simp (disch:=omega) only [NH,Jt,go_sem,seval])
   ·have hf:nth l i=true:=by grind
    simp (disch:=first | omega | (simp only [Zz,ZQ,Zm,Zu,Zy,ZK]<;>omega)) only [Ml,go_sem,seval];refine ⟨(i,o.set i false),⟨Za,Za,?_,?_⟩,Za,Weak.mk (by simp (disch:=first | omega | (simp only [Zz,ZQ,Zm,Zu,Zy,ZK]<;>omega)) only [KS,go_sem,seval])⟩
    ·grind
    grind
  ·have hjn:j=n:=Za
   have hres:CW l n=none:=by grind [CW,Kg]
   rw [hres];exact we (by simp (disch:=omega) only [NH,KO,go_sem,seval])
theorem Sb {r q:List Bool} :CW (r++q) r.length=(Yb q).map (r++ ·):=by simp [CW]
theorem Sm {l:List Bool} :NH (some l)= .list false (l.map eB):=rfl
theorem Sl : NH none= .list true []:=rfl
def FF (b:Option Lab):She:=match b with | some L=>L.she | none=>zShe
def Fz (r:List Bool) (cur:Option (List Bool)):List (List Bool):=match cur with | some q=>(Y3 q).map (r++ ·) | none=> []
theorem CC {r s:List Bool} :Fz r (some s)=(r++s)::Fz r (Yb s):=by
 grind [Fz,fromB_next]
theorem L7 {x:Inst} {t:Typ} {sp:List Stp} : ∀(bs:List Bool) (k:Nat) (L:Lab),¬(XG x t sp k L bs).2=0->(XG x t sp k L bs).1=Wn
 | [],k,L,h=>by simp [XG] at h
 | b::bs,k,L,h=>by
  rw [XG] at h ⊢
  split
  ·rename_i c;rw [if_pos c] at h;exact L7 bs _ _ h
  ·rfl
theorem T2 (x:Inst) (r:Rte) (hok:TrpOk x (Z0 x r) (Z8 x r.visits)) (ho:x.orders.length<=1048576) (ht:x.types.length<=1048576) (hne:0<r.visits.length) (hp:VR x r=true) (hl:r.rests.length<=r.visits.length+1) :
  PT 89 [.p (Zs x),.p (YJ r)] [.p (D2 (XB x r).1),.p (.int .i64 (XB x r).2)]:=by
 have hsl:(Z8 x r.visits).length=r.visits.length:=Yu;have hp2:=hp;simp only [VR,ZG,Zl] at hp2;have hv20:=hp2.1.2;have hrun:=fun rests (c:Bool) (h:rests.length=r.visits.length+1)=>jF x r rests c hok ho ht hne hp h;have hopt:=fun bs=>VS (x:=x) (t:=Z0 x r) (sp:=Z8 x r.visits) bs 0 (labF (Z0 x r) r.start);unfold XB Up
 generalize hS:Z8 x r.visits=sp at *
 generalize Z0 x r=t at *
 generalize labF t r.start=L0 at *
 refine Ze [5,6] Tryz.func89 rfl rH ?_;simp (disch:=omega) only [Tryz.f89,go_sem,seval];refine (EG x r ho ht Za).use (Yv ?_);rw [hp];refine Yv ?_;refine cD ?_ ?_<;>intro h0<;>simp (disch:=omega) only [Sh.out h0,go_sem,seval,↓reduceIte]
 ·omega
 ·refine UU (Dm 3 rfl rfl (Yv ?_));refine ⟨_,_,LP (e:=4) rfl Tryz.underlying46 Zd rfl rfl rfl ?_ ?_ ?_,?_⟩
  ·simp
  ·simp;omega
  ·intro q hq;obtain ⟨b,_,rfl⟩:=Xz.1 hq
   rfl
  ·have hpl:(Y6 r.rests (sp.length+1)).length=r.visits.length+1:=by simp [Y6];omega
   have hpad:r.rests.map eB++(PV.bool false::List.replicate r.visits.length (PV.bool false)).drop (r.rests.map eB).length=(Y6 r.rests (sp.length+1)).map eB:=by
    rw [Y6,Xi,<- Jh,List.drop_replicate,Bp,hsl,Zu];rfl
   simp only [X2,Xj];rw [hpad];have h0r:=hopt (Y6 r.rests (sp.length+1))
   have cn: ∀s:List Bool,(r.rests++s).length=r.visits.length+1->PT 143 [.p (.list false ((r.rests++s).map eB)),.p (.int .i64 (r.rests.length:Nat))] [.p (NH ((Yb s).map (r.rests++ ·))),.p (.bool ((Yb s).map (r.rests++ ·)).isSome)]:=fun s hs=>by
    grind [dU,Sb]
   have e1:(XG x t sp 0 L0 (Y6 r.rests (sp.length+1))).1.she=FF (Vm (XJ x t sp) 0 L0 (Y6 r.rests (sp.length+1))):=by
    rw [h0r]
    split
    ·rfl
    ·rename_i c;rw [L7 _ _ _ c];rfl
   have e2:decide ((XG x t sp 0 L0 (Y6 r.rests (sp.length+1))).2=0)=(Vm (XJ x t sp) 0 L0 (Y6 r.rests (sp.length+1))).isSome:=by
    grind
   have hrp:=hrun (Y6 r.rests (sp.length+1)) false hpl;have hall:YZ r.rests (sp.length+1)=Fz r.rests (some (List.replicate (sp.length+1-r.rests.length) false)):=rfl;refine Zp (Weak.fz (o:=3) (by rfl)) (Zf [] _ _ _ _ (Kw ?_));rw [if_pos hpl];refine X0 hrp (Yv ?_);refine X0 (cn (List.replicate (sp.length+1-r.rests.length) false) hpl) ?_;simp (disch:=omega) only [e1,e2,go_sem,seval]
   have hfm:Vn Wb none ((YZ r.rests (sp.length+1)).filterMap (Vm (XJ x t sp) 0 L0))=Vn Wb (Vm (XJ x t sp) 0 L0 (Y6 r.rests (sp.length+1))) ((Fz r.rests (Yb (List.replicate (sp.length+1-r.rests.length) false))).filterMap (Vm (XJ x t sp) 0 L0)):=by
    rw [hall,CC,List.filterMap_cons];rw [show r.rests++List.replicate (sp.length+1-r.rests.length) false=Y6 r.rests (sp.length+1) from rfl]
    cases Vm (XJ x t sp) 0 L0 (Y6 r.rests (sp.length+1)) with
    | none=>rfl
    | some L=>rfl
   clear hall;generalize Vn Wb none ((YZ r.rests (sp.length+1)).filterMap (Vm (XJ x t sp) 0 L0))=res at hfm ⊢;generalize (XG x t sp 0 L0 (Y6 r.rests (sp.length+1))).2=err0
   refine Zj [2,3,4,8,9] (fun q:Option (List Bool)×Option Lab=> [(7,.p (NH (q.1.map (r.rests++ ·)))),(10,.p (.bool q.2.isSome)),(11,.p (.bool (q.1.map (r.rests++ ·)).isSome))])
    (fun q=> [Zg x,Z5 r,.cells [.p (.bool false),.p (.int .i64 0),.p (.list true []),.p (.int .i64 0),.p (.int .i64 0)],.dead,.cells [.p (.bool (FF q.2).rest),.p (.int .i64 (FF q.2).dep),.p (.list (FF q.2).times_c ((FF q.2).times.map eTim)),.p (.int .i64 (FF q.2).fin),.p (.int .i64 (FF q.2).miles)]])
    (fun q=>res=Vn Wb q.2 ((Fz r.rests q.1).filterMap (Vm (XJ x t sp) 0 L0))/\ ∀s,q.1=some s->s.length=sp.length+1-r.rests.length) (fun q=>(Fz r.rests q.1).length)
    (Yb (List.replicate (sp.length+1-r.rests.length) false),Vm (XJ x t sp) 0 L0 (Y6 r.rests (sp.length+1))) ⟨hfm,fun s hs=>by have:=fromB_next.nlen _ _ hs;grind⟩ (Weak.mk ?_) ?_
   ·simp (disch:=omega) only [Zg,Z5,go_sem,seval]
   ·rintro ⟨cur,b⟩ ⟨hR,hcl⟩;simp only at hR hcl
    cases cur with
    | none =>
     simp only [Fz,List.filterMap_nil] at hR;simp (disch:=omega) only [Option.map_none,KO,Sl,Zg,Z5,go_sem,seval]
     cases b with
     | none =>
      rw [Vn] at hR;subst hR;simp (disch:=omega) only [KO,VZ,go_sem,seval];exact we (by simp (disch:=omega) only [zShe,Zk,go_sem,seval])
     | some m =>
      rw [Vn] at hR;subst hR;simp (disch:=omega) only [Jt,Uy,FF,go_sem,seval];exact we
    | some s =>
     have hsl2:=hcl s rfl;rw [CC,List.filterMap_cons,hopt] at hR
     have hmu:(Fz r.rests (Yb s)).length<(Fz r.rests (some s)).length:=by rw [CC];simp
     have hnl: ∀s',Yb s=some s'->s'.length=sp.length+1-r.rests.length:=fun s' hs'=>by grind [fromB_next.nlen]
     have hlen:(r.rests++s).length=r.visits.length+1:=by simp;omega
     have hr1:=hrun (r.rests++s) false hlen;have cn1:=cn s hlen;rw [Xi] at hr1 cn1;simp (disch:=omega) only [KT,Jt,Sm,Zg,Z5,go_sem,seval];generalize XG x t sp 0 L0 (r.rests++s)=g at hR hr1;obtain ⟨Lg,eg⟩:=g;simp only at hR hr1;refine X0 hr1 (Yv ?_);refine gT ?_ ?_<;>intro h1<;>simp (disch:=omega) only [Sh.out h1,go_sem,seval,↓reduceIte]
     ·subst h1
      cases b with
      | none =>
       simp (disch:=omega) only [KO,VZ,go_sem,seval];refine X0 cn1 (Yv ?_);exact ⟨(Yb s,some Lg),⟨hR,hnl⟩,hmu,Weak.mk (by simp (disch:=omega) only [FF,Jt,go_sem,seval])⟩
      | some m =>
       simp (disch:=omega) only [Jt,Uy,FF,go_sem,seval];refine cD ?_ ?_<;>intro h2<;>simp (disch:=omega) only [Sh.out h2,go_sem,seval,↓reduceIte]
       ·refine X0 cn1 ?_;refine Yv ?_;exact ⟨(Yb s,some Lg),⟨by rw [hR];simp only [if_true,Vn,Wb,h2],hnl⟩,hmu,Weak.mk (by simp (disch:=omega) only [Jt,go_sem,seval])⟩
       ·refine X0 cn1 ?_;refine Yv ?_;exact ⟨(Yb s,some m),⟨by rw [hR];simp only [if_true,Vn,Wb,h2,Ys],hnl⟩,hmu,Weak.mk (by simp (disch:=omega) only [Jt,go_sem,seval])⟩
     ·rw [if_neg h1] at hR;refine X0 cn1 (Yv ?_);exact ⟨(Yb s,b),⟨hR,hnl⟩,hmu,wk⟩
def eR (p:Bool×List Int):PV:= .list p.1 (p.2.map eI)
@[go_sem] theorem Zoi (p:Bool×List Int):eR p= .list p.1 (p.2.map eI):=Zw rfl rfl
theorem bF (L:List (Bool×List Int)) (c:Bool) (d:Nat) (hd:d<=3) (hL:L.length<=1048576) (h: ∀p∈L,p.2.length=d):PC 283 [.p (.list c (L.map eR)),.p (.int .i64 (d:Nat))] (.bool true):=by
 refine Zc Tryz.func283 rfl Zad ?_
 have e1: ¬(d:Int)<0:=Za
 have e2: ¬(3:Int)<d:=Za
 simp (disch:=omega) only [Tryz.f283,e1,e2,go_sem,seval];refine Zj [0,1] (fun k:Nat=> [(5,.p (.int .i64 k))]) (fun _=> []) (fun k=>k<=L.length) (fun k=>L.length-k) 0 Zb (Weak.mk ?_) ?_
 ·simp (disch:=omega) only [go_sem,seval,↓reduceIte]
 ·intro k hk;refine Yv ?_;refine cD ?_ ?_<;>intro h1<;>simp (disch:=omega) only [Sh.out h1,go_sem,seval,↓reduceIte]
  ·have hk2:k<L.length:=Za
   have hp:=h _ (Zq hk2);simp (disch:=omega) only [hp,go_sem,seval];exact ⟨k+1,Za,Za,wk⟩
def Db (L:List (Bool×List Int)) (k j:Nat):Int:=((L.take k).map fun p=>nth p.2 j).sum
theorem FV {L:List (Bool×List Int)} {k j:Nat} (h:k<L.length):Db L (k+1) j=Db L k j+nth (nth L k).2 j:=by
 grind [Db,ZE,Zi]
theorem IZ {L:List (Bool×List Int)} {d j:Nat} (h: ∀p∈L,p.2.length=d/\ ∀n∈p.2,0<=n/\n<=1000) (hj:j<d): ∀k,k<=L.length->0<=Db L k j/\Db L k j<=1000*(k:Int)
 | 0,_=>by simp [Db]
 | k+1,hk=>by
  have ih:=IZ h hj k Za;obtain ⟨h1,h2⟩:=h _ (Zq (show k<L.length by omega));have:=h2 _ (Zq (show j<(nth L k).2.length by omega))
  grind [FV]
def oE (L:List (Bool×List Int)) (d:Nat):List Int:=(List.range d).map fun j=>Db L L.length j
theorem oD (L:List (Bool×List Int)) (c:Bool) (d:Nat) (hd:1<=d/\d<=3) (hL:L.length<=1048576) (h: ∀p∈L,p.2.length=d/\ ∀n∈p.2,0<=n/\n<=1000) :
  PT 247 [.p (.list c (L.map eR)),.p (.int .i64 (d:Nat))] [.p (.list false ((oE L d).map eI)),.p (.int .i64 0)]:=by
 refine Ze [13] Tryz.func247 rfl yZ ?_;simp (disch:=omega) only [Tryz.f247,go_sem,seval];refine (bF L c d hd.2 hL fun p hp=>(h p hp).1).use (Yv ?_);refine ZS [13] [0,1] (fun q:Nat×List Int=> [(6,.sl 0 0 q.2.length q.2.length),(7,.p (.int .i64 q.1))]) (fun q=> [.elems 1 (q.2.map eI)]) (fun q=>q.1<=d/\q.2=(List.range q.1).map fun j=>Db L L.length j) (fun q=>d-q.1) (0,[]) Zb (Weak.ofNil 6 1 rfl Zb (Weak.mk ?_)) ?_
 ·simp (disch:=omega) only [Zk,ZQ,go_sem,seval,↓reduceIte]
 ·rintro ⟨j,o⟩ ⟨hj,ho⟩;simp only at hj ho
  have hol:o.length=j:=by rw [ho];simp
  refine Yv ?_;refine cD ?_ ?_<;>intro h1<;>simp (disch:=omega) only [Sh.out h1,go_sem,seval,↓reduceIte]
  ·have hj2:j<d:=Za
   refine Zj [0,1,6,7] (fun k:Nat=> [(8,.p (.int .i64 (Db L k j))),(9,.p (.int .i64 k))]) (fun _=> [.elems 1 (o.map eI)]) (fun k=>k<=L.length) (fun k=>L.length-k) 0 Zb (Weak.mk ?_) ?_
   ·simp (disch:=omega) only [Db,UF,Zk,List.sum_nil,go_sem,seval,↓reduceIte]
   ·intro k hk;refine Yv ?_;refine cD ?_ ?_<;>intro h2<;>simp (disch:=omega) only [Sh.out h2,go_sem,seval,↓reduceIte]
    ·have hk2:k<L.length:=Za
     obtain ⟨g1,g2⟩:=h _ (Zq hk2);have g3:=g2 _ (Zq (show j<(nth L k).2.length by omega));have g4:=IZ h hj2 k hk;have g5:=FV (j:=j) hk2
     have g6:j<(nth L k).2.length:=Za
     refine Yv ?_;exact ⟨k+1,Za,Za,Weak.mk (by simp (disch:=omega) only [g5,go_sem,seval])⟩
    ·have hkl:k=L.length:=Za
     subst hkl;refine ⟨(j+1,o++ [Db L L.length j]),⟨Za,by grind [Wt]⟩,Za,Weak.mk (by simp (disch:=omega) only [Zm,Zz,ZQ,Xi,ZN,Zk,go_sem,seval])⟩
  ·have hjd:j=d:=Za
   subst hjd;refine Zp (Weak.fz (o:=0) (by rfl)) ?_;refine Zf [] _ _ _ _ ?_;simp (disch:=omega) only [ZN,Zk,Xj,go_sem,seval];rw [oE,<- ho];exact we
theorem bM (a b:List Int) (c d:Bool) (ha:a.length<=1048576) (hb:b.length<=1048576):PC 140 [.p (.list c (a.map eI)),.p (.list d (b.map eI))] (.bool (UX a b)):=by
 refine Zc Tryz.func140 rfl wJ ?_;simp (disch:=omega) only [Tryz.f140,go_sem,seval];refine cD ?_ ?_<;>intro h1<;>simp (disch:=omega) only [Sh.out h1,go_sem,seval]
 ·grind [UX]
 ·have h1':a.length=b.length:=Za
  refine Zj [0,1] (fun k:Nat=> [(5,.p (.int .i64 k))]) (fun _=> []) (fun k=>k<=a.length/\ ∀j,j<k->nth a j<=nth b j) (fun k=>a.length-k) 0 Zb (Weak.mk ?_) ?_
  ·simp (disch:=omega) only [go_sem,seval,↓reduceIte]
  ·rintro k ⟨hk,hno⟩;refine Yv ?_;refine cD ?_ ?_<;>intro h2<;>simp (disch:=omega) only [Sh.out h2,go_sem,seval,↓reduceIte]
   ·have hk2:k<a.length:=Za
    refine Xd (Yv ?_);refine cD ?_ ?_<;>intro h3<;>simp (disch:=omega) only [Sh.out h3,go_sem,seval,↓reduceIte]
    ·grind [UX]
    ·exact ⟨k+1,⟨Za,Zn.2 ⟨hno,Za⟩⟩,Za,wk⟩
   ·have hkl:k=a.length:=Za
    simp_all [UX]
theorem aZ (x:Inst) (ht:x.types.length<=1048576):PC 248 [.p (Zs x)] (.int .i64 (dimsOf x.types)):=by
 refine Zc Tryz.func248 rfl zA ?_;simp (disch:=omega) only [Tryz.f248,go_sem,seval];refine cD ?_ ?_<;>intro h1<;>simp (disch:=omega) only [Sh.out h1,go_sem,seval,↓reduceIte]
 ·grind [dimsOf]
 simp_all [dimsOf]
structure LdOk (x:Inst):Prop where
 ord:x.orders.length<=10
 typ:x.types.length<=1048576
 dim:1<=dimsOf x.types/\dimsOf x.types<=3
 load: ∀o∈x.orders,(o.load.length:Int)=dimsOf x.types/\ ∀n∈o.load,0<=n/\n<=1000
theorem UZ {x:Inst} (h:InstOk x):LdOk x:=by
 have ht:=h.types.1;simp only [rng,Zl] at ht;have ho:=h.orders
 have h0:0<x.types.length:=Za
 have hcap:=h.types.2 0 h0;unfold Au at hcap;obtain ⟨⟨⟨⟨⟨⟨⟨⟨_,_⟩,_⟩,_⟩,hcap⟩,_⟩,_⟩,_⟩,_⟩:=hcap;simp only [Us,ZG,Zl,rng] at hcap;refine ⟨ho.1,Za,Za,fun o hm=> ?_⟩;obtain ⟨i,hi,rfl⟩:=ZD.1 hm;have:=(ho.2 i hi).load;rw [Zi hi] at this
 simp_all [loadOk,rng]
def Fm (x:Inst) (l:List Vis) (n k:Nat):List (Bool×List Int):=((List.range k).filter fun i=>Fx x l n i&&hasO l i).map fun i=>((nth x.orders i).load_c,(nth x.orders i).load)
theorem Rt {x:Inst} {l:List Vis} {n k:Nat} :Fm x l n (k+1)=Fm x l n k++if (Fx x l n k&&hasO l k)=true then [((nth x.orders k).load_c,(nth x.orders k).load)] else []:=by
 grind [Fm,Wt]
theorem T5 {x:Inst} {l:List Vis} {n:Nat} : ∀k,(Fm x l n k).length<=k:=fun k=>by
 grind [Fm]
theorem kO {x:Inst} {l:List Vis} {n k:Nat} (h:LdOk x) (hk:k<=x.orders.length): ∀p∈Fm x l n k,p.2.length=(dimsOf x.types).toNat/\ ∀m∈p.2,0<=m/\m<=1000:=fun p hp=>by
 obtain ⟨i,hi,rfl⟩:=Xz.1 hp;have hi2:=Xa.1 (U2.1 hi).1;have:=h.load _ (Zq (show i<x.orders.length by omega))
 grind
theorem T6 {x:Inst} {l:List Vis} {n:Nat} :oE (Fm x l n x.orders.length) (dimsOf x.types).toNat=Wa x l n:=by
 unfold oE Wa
 grind [Db,Fm,Di,JC]
def rQ (x:Inst) (l:List Vis) (n i k:Nat):Bool:=(l.take (min k n)).foldl (fun on v=>if v.order=(i:Int) then !v.drp else on) (decide ((nth x.orders i).pick.place<0))
def Nu (l:List Vis) (i k:Nat):Bool:=(l.take k).any fun v=>decide (v.order=(i:Int))
theorem eA {x:Inst} {l:List Vis} {n i k:Nat} (h:k<l.length):rQ x l n i (k+1)=if (nth l k).order=(i:Int) then (if k<n then !(nth l k).drp else rQ x l n i k) else rQ x l n i k:=by
 grind [rQ,ZE,Zi]
theorem RR {l:List Vis} {i k:Nat} (h:k<l.length):Nu l i (k+1)=if (nth l k).order=(i:Int) then true else Nu l i k:=by
 grind [Nu,ZE,Zi]
theorem mP {x:Inst} {l:List Vis} {n i:Nat} (h:n<=l.length):rQ x l n i l.length=Fx x l n i:=by
 grind [rQ,Fx]
theorem cH {l:List Vis} {i:Nat} :Nu l i l.length=hasO l i:=by grind [Nu,hasO]
theorem P8 (x:Inst) (l:List Vis) (c:Bool) (n:Nat) (hx:LdOk x) (hl:l.length<=1048576) (hn:n<=l.length) :
  PT 185 [.p (Zs x),.p (.list c (l.map Z2)),.p (.int .i64 (n:Nat))] [.p (.list false ((Wa x l n).map eI)),.p (.int .i64 0)]:=by
 have ho:=hx.ord;refine Ze [15] Tryz.func185 rfl xN ?_;simp (disch:=omega) only [Tryz.f185,go_sem,seval];refine ZS [15] [1,2,3] (fun q:Nat×List (Bool×List Int)=> [(8,.sl 1 0 q.2.length q.2.length),(9,.p (.int .i64 q.1))]) (fun q=> [Zg x,.elems 1 (q.2.map eR)]) (fun q=>q.1<=x.orders.length/\q.2=Fm x l n q.1) (fun q=>x.orders.length-q.1) (0,[]) (by simp [Fm]) (Weak.ofNil 8 1 rfl Zb (Weak.mk ?_)) ?_
 ·simp (disch:=omega) only [Zg,Zk,ZQ,ZP,ZR,go_sem,seval]
 ·rintro ⟨i,o⟩ ⟨hi,hob⟩;simp only at hi hob
  have hol:o.length<=i:=by grind [T5]
  refine X6 ?_;refine cD ?_ ?_<;>intro h1<;>simp (disch:=omega) only [Sh.out h1,go_sem,seval,↓reduceIte]
  ·have hi2:i<x.orders.length:=Za
   refine Zj [1,2,3,8,9] (fun k:Nat=> [(10,.p (.bool (rQ x l n i k))),(11,.p (.bool (Nu l i k))),(12,.p (.int .i64 k))]) (fun _=> [Zg x,.elems 1 (o.map eR)]) (fun k=>k<=l.length) (fun k=>l.length-k) 0 Zb (Weak.mk ?_) ?_
   ·simp (disch:=omega) only [Zg,rQ,Nu,Nat.zero_min,UF,V2,List.any_nil,go_sem,seval]
   ·intro k hk;refine X6 ?_;refine cD ?_ ?_<;>intro h2<;>simp (disch:=omega) only [Sh.out h2,go_sem,seval,↓reduceIte]
    ·have hk2:k<l.length:=Za
     have s1:=eA (x:=x) (n:=n) (i:=i) hk2;have s2:=RR (i:=i) hk2;refine ZH ?_ ?_<;>intro h3
     ·rw [if_neg h3] at s1 s2;exact ⟨k+1,Za,Za,Weak.mk (by simp (disch:=omega) only [s1,s2,go_sem,seval])⟩
     ·have h3':=Xk.1 h3;rw [if_pos h3'] at s1 s2;refine ZH ?_ ?_<;>intro h4
      ·rw [if_pos Za] at s1;exact ⟨k+1,Za,Za,Weak.mk (by simp (disch:=omega) only [s1,s2,go_sem,seval])⟩
      ·rw [if_neg Za] at s1;exact ⟨k+1,Za,Za,Weak.mk (by simp (disch:=omega) only [s1,s2,go_sem,seval])⟩
    ·have hkl:k=l.length:=Za
     subst hkl;have s3:=Rt (x:=x) (l:=l) (n:=n) (k:=i);rw [mP hn,cH];refine US ?_ ?_<;>intro h5
     ·refine ZH ?_ ?_<;>intro h6
      ·rw [h5,h6,Bool.and_self,if_pos rfl] at s3;exact ⟨(i+1,o++ [((nth x.orders i).load_c,(nth x.orders i).load)]),⟨Za,by grind⟩,Za,Weak.mk (by simp (disch:=omega) only [Zm,Zz,ZQ,Xi,ZN,Zk,go_sem,seval])⟩
      ·rw [h5,h6,Bool.and_false,if_neg Zb,We] at s3;exact ⟨(i+1,o),⟨Za,by grind⟩,Za,wk⟩
     ·have h5':Fx x l n i=false:=Za
      rw [h5',Jw,if_neg Zb,We] at s3;exact ⟨(i+1,o),⟨Za,by grind⟩,Za,wk⟩
  ·have hik:i=x.orders.length:=Za
   subst hik
   have hD:dimsOf x.types=((dimsOf x.types).toNat:Int):=by have:=hx.dim;omega
   have hok:=kO (l:=l) (n:=n) hx (ZL _);rw [<- hob] at hok;have hs:=T6 (x:=x) (l:=l) (n:=n);rw [<- hob] at hs;refine Zp (Weak.fz (o:=1) (by rfl)) (Zf [] _ _ _ _ (Kw ?_));refine (aZ x hx.typ).use (Yv ?_);rw [hD];refine X0 (oD o false (dimsOf x.types).toNat (by have:=hx.dim;omega) Za hok) (Yv ?_);rw [<- hs];exact we
def iY (l:List Int):PV:= .list false (l.map eI)
@[go_sem] theorem uV (l:List Int):iY l= .list false (l.map eI):=Zw rfl rfl
def U4 (x:Inst) (l:List Vis):List (List Int):=(List.range (l.length+1)).map (Wa x l)
theorem R3 (x:Inst) (r:Rte) (hx:InstOk x) (hl:r.visits.length<=1048576) (h0:Xm x r.visits=0) (hchk:PC 86 [.p (Zs x),.p (YJ r)] (.int .i64 (Xm x r.visits))) :
  PT 139 [.p (Zs x),.p (YJ r)] [.p (.list false ((U4 x r.visits).map iY)),.p (.int .i64 0)]:=by
 have hd:=UZ hx;refine Ze [12] Tryz.func139 rfl wI ?_;simp (disch:=omega) only [Tryz.f139,go_sem,seval];refine (hchk).use (Yv ?_);simp (disch:=omega) only [h0,go_sem,seval];refine ZS [12] [2,3] (fun q:Nat×List (List Int)=> [(7,.sl 2 0 q.2.length q.2.length),(8,.p (.int .i64 q.1))]) (fun q=> [Zg x,Z5 r,.elems 1 (q.2.map iY)]) (fun q=>q.1<=r.visits.length+1/\q.2=(List.range q.1).map (Wa x r.visits)) (fun q=>r.visits.length+1-q.1) (0,[]) Zb (Weak.ofNil 7 1 rfl Zb (Weak.mk ?_)) ?_
 ·simp (disch:=omega) only [Zg,Z5,Zk,ZQ,ZP,ZR,go_sem,seval]
 ·rintro ⟨k,o⟩ ⟨hk,ho⟩;simp only at hk ho
  have hol:o.length=k:=by rw [ho];simp
  refine C2 ?_;refine cD ?_ ?_<;>intro h1<;>simp (disch:=omega) only [Sh.out h1,go_sem,seval,↓reduceIte]
  ·refine X0 (P8 x r.visits r.visits_c k hd hl Za) (Yv ?_);exact ⟨(k+1,o++ [Wa x r.visits k]),⟨Za,by grind [Wt]⟩,Za,Weak.mk (by simp (disch:=omega) only [Zm,Zz,ZQ,Xi,ZN,Zk,go_sem,seval])⟩
  ·have hkl:k=r.visits.length+1:=Za
   subst hkl;refine Zp (Weak.fz (o:=2) (by rfl)) (Zf [] _ _ _ _ (Kw ?_));rw [U4,<- ho];exact we
theorem bN (x:Inst) (r:Rte) (hx:InstOk x) (hl:r.visits.length<=1048576) (hty:0<=r.typ/\r.typ<(x.types.length:Int)) (h0:Xm x r.visits=0) (hchk:PC 86 [.p (Zs x),.p (YJ r)] (.int .i64 (Xm x r.visits))) :
  PC 88 [.p (Zs x),.p (YJ r)] (.int .i64 (if U3 x (Z0 x r).cap r.visits=true then 0 else 17)):=by
 have hd:=UZ hx;have htl:=hd.typ
 have hti:r.typ.toNat<x.types.length:=Za
 have hcp:(nth x.types r.typ.toNat).cap.length<=3:=by
  have hcap:=hx.types.2 _ hti;unfold Au at hcap;obtain ⟨⟨⟨⟨⟨⟨⟨⟨_,_⟩,_⟩,_⟩,hcap⟩,_⟩,_⟩,_⟩,_⟩:=hcap;simp only [Us,ZG,Zl,rng] at hcap;omega
 have hll:(U4 x r.visits).length=r.visits.length+1:=by simp [U4]
 have hln: ∀k,k<r.visits.length+1->nth (U4 x r.visits) k=Wa x r.visits k:=fun k hk=>by
  grind [Zi,U4]
 have hal: ∀k,(Wa x r.visits k).length<=3:=fun k=>by rw [DL];have:=hd.dim;omega
 have cl:=R3 x r hx hl h0 hchk;unfold Z0
 generalize hL:U4 x r.visits=L at *
 refine Zc Tryz.func88 rfl Zhr ?_
 have e1: ¬r.typ<0:=Za
 have e2: ¬(x.types.length:Int)<=r.typ:=Za
 simp (disch:=omega) only [Tryz.f88,e1,e2,go_sem,seval];refine X0 cl (Yv ?_);refine Zj [2,3,5] (fun k:Nat=> [(7,.p (.int .i64 k))]) (fun _=> [Zg x,Z5 r]) (fun k=>k<=r.visits.length+1/\ ∀j,j<k->UX (Wa x r.visits j) (nth x.types r.typ.toNat).cap=true) (fun k=>r.visits.length+1-k) 0 Zb (Weak.mk ?_) ?_
 ·simp (disch:=omega) only [Zg,Z5,go_sem,seval]
 ·rintro k ⟨hk,hno⟩;simp (disch:=omega) only [Zg,Z5,hll,go_sem,seval];refine cD ?_ ?_<;>intro h1<;>simp (disch:=omega) only [Sh.out h1,go_sem,seval,↓reduceIte]
  ·have hk2:k<r.visits.length+1:=Za
   have hk3:k<L.length:=Za
   have hk4:=hal k;refine Xd ?_;simp (disch:=omega) only [hln k hk2,go_sem,seval];refine Zo (bM (Wa x r.visits k) (nth x.types r.typ.toNat).cap false (nth x.types r.typ.toNat).cap_c Za Za) (Yv ?_);refine ZH ?_ ?_<;>intro h2
   ·have h2':UX (Wa x r.visits k) (nth x.types r.typ.toNat).cap=false:=by grind
    have: ¬U3 x (nth x.types r.typ.toNat).cap r.visits=true:=fun h=>by
     grind [U3]
    grind
   ·exact ⟨k+1,⟨Za,Zn.2 ⟨hno,by grind⟩⟩,Za,wk⟩
  ·have:U3 x (nth x.types r.typ.toNat).cap r.visits=true:=by
    grind [U3]
   grind
def IS (j:Nat):Int:=if j=63 then-9223372036854775808 else ((pw j:Nat):Int)
theorem OD {j:Nat} (h:j<63):IS j=((pw j:Nat):Int):=by rw [IS,if_neg Za]
theorem Zbr {j:Nat} (h:j<=62):pw j<=4611686018427387904:=by have:=JK h;rwa [EH] at this
theorem IT {j:Nat} (h:j<=63):0<IS j↔j<63:=by
 grind [IS,EI]
theorem sC {S q:Nat} (hS:S<9223372036854775808) (h:q<=S):IntKind.i64.wrap (q:Int)=(q:Int):=by rw [IntKind.wrap_i64];omega
theorem Zbt {P:Program} {t:TypeId} {S j:Nat} (hS:S<9223372036854775808):X1 P .quo t (.p (.int .i64 (S:Int))) (.p (.int .i64 ((pw j:Nat):Int)))=some (.int .i64 ((S / pw j:Nat):Int)):=by
 have hp:=EI j;rw [TB Za]
 have e:(S:Int).tdiv ((pw j:Nat):Int)=((S / pw j:Nat):Int):=by
  rfl
 have hle:=Nat.div_le_self S (pw j);rw [e,sC hS hle]
theorem nL {P:Program} {t:TypeId} {S:Nat} :X1 P .rem t (.p (.int .i64 (S:Int))) (.p (.int .i64 2))=some (.int .i64 ((S%2:Nat):Int)):=by
 rfl
theorem Zh5 {S j:Nat} (hS:S<9223372036854775808):(IntKind.i64.wrap ((S:Int) / ((pw j:Nat):Int))).tmod 2=((S / pw j%2:Nat):Int):=by
 have hle:=Nat.div_le_self S (pw j)
 grind [sC]
theorem dP {P:Program} {t:TypeId} {j:Nat} (h:j<63):X1 P .mul t (.p (.int .i64 ((pw j:Nat):Int))) (.p (.int .i64 2))=some (.int .i64 (IS (j+1))):=by
 grind [Tz,IS,Zbr,pw,IntKind.wrap_i64]
theorem TE (t:Typ) (s:Int) (h1:t.skills<9223372036854775808) (h2:s<9223372036854775808):PC 87 [.p (Vr t),.p (.int .i64 s)] (.bool (Wz t s)):=by
 refine Zc Tryz.func87 rfl Zhq ?_;simp (disch:=omega) only [Tryz.f87,go_sem,seval];refine gF ?_ ?_<;>intro c1<;>simp (disch:=omega) only [Sh.out c1,go_sem,seval,↓reduceIte]
 ·grind [Wz]
 ·refine cD ?_ ?_<;>intro c2<;>simp (disch:=omega) only [Sh.out c2,go_sem,seval]
  ·grind [Wz]
  ·obtain ⟨M,hM⟩: ∃M:Nat,t.skills=(M:Int):=⟨t.skills.toNat,Za⟩;obtain ⟨S,rfl⟩: ∃S:Nat,s=(S:Int):=⟨s.toNat,Za⟩
   have hMl:M<9223372036854775808:=Za
   have hSl:S<9223372036854775808:=Za
   have hab: ∀b:Bool,((List.range 63).all fun i=> !S.testBit i||M.testBit i)=b->Wz t (S:Int)=b:=fun b hb=>by
    simp_all [Wz]
   refine Zj [1,2] (fun j:Nat=> [(5,.p (.int .i64 (IS j)))]) (fun _=> [XV t]) (fun j=>j<=63/\ ∀i,i<j->(!S.testBit i||M.testBit i)=true) (fun j=>63-j) 0 Zb (Weak.mk ?_) ?_
   ·simp (disch:=omega) only [XV,hM,show IS 0=1 from rfl,go_sem,seval]
   ·rintro j ⟨hj,hno⟩;simp (disch:=omega) only [XV,hM,go_sem,seval];refine cD ?_ ?_<;>intro c3<;>simp (disch:=omega) only [Sh.out c3,go_sem,seval,↓reduceIte]
    ·have hj2:j<63:=(IT hj).1 c3;simp (disch:=omega) only [OD hj2,Zh5 hSl,Hj,go_sem,seval];refine gT ?_ ?_<;>intro c4<;>simp (disch:=omega) only [Sh.out c4,OD hj2,Zbt hMl,Zh5 hSl,nL,dP hj2,Hj,Hi,go_sem,seval]
     ·refine cD ?_ ?_<;>intro c5<;>simp (disch:=omega) only [Sh.out c5,dP hj2,go_sem,seval]
      ·grind
      ·exact ⟨j+1,⟨Za,Zn.2 ⟨hno,by grind⟩⟩,Za,Weak.mk (by simp (disch:=omega) only [hM,go_sem,seval])⟩
     ·exact ⟨j+1,⟨Za,Zn.2 ⟨hno,by grind⟩⟩,Za,Weak.mk (by simp (disch:=omega) only [hM,go_sem,seval])⟩
    ·have hj63:j=63:=by
      rcases Ww j 63 with h | h
      ·simp_all [IT]
      ·omega
     simp_all
theorem M6 (l:List Vis) (c:Bool) (n:Nat) (hn:n<l.length) (hl:l.length<=1048576):PC 144 [.p (.list c (l.map Z2)),.p (.int .i64 (n:Nat))] (.bool (Ux l n)):=by
 refine Zc Tryz.func144 rfl wN ?_;simp (disch:=omega) only [Tryz.f144,go_sem,seval];refine Zj [0,1] (fun k:Nat=> [(5,.p (.int .i64 k))]) (fun _=> []) (fun k=>k<=n/\ ∀j,j<k->(nth l j).order≠(nth l n).order) (fun k=>n-k) 0 Zb (Weak.mk ?_) ?_
 ·simp (disch:=omega) only [go_sem,seval,↓reduceIte]
 ·rintro k ⟨hk,hno⟩;refine Yv ?_;refine cD ?_ ?_<;>intro h1<;>simp (disch:=omega) only [Sh.out h1,go_sem,seval,↓reduceIte]
  ·have hk2:k<n:=Za
   have hk3:k<l.length:=Za
   refine Xd (Yv ?_);refine cD ?_ ?_<;>intro h2<;>simp (disch:=omega) only [Sh.out h2,go_sem,seval,↓reduceIte]
   ·grind [Ux,Es]
   ·exact ⟨k+1,⟨Za,Zn.2 ⟨hno,h2⟩⟩,Za,wk⟩
  ·have hkn:k=n:=Za
   subst hkn
   have:Ux l k=true:=by
    unfold Ux;rw [XR,YG];intro v hv;obtain ⟨j,j1,j2,rfl⟩:=QX hv
    grind
   rw [this]
def BS (c m o w:Int):AM.Obj:= .cells [.p (.int .i64 c),.p (.int .i64 m),.p (.int .i64 o),.p (.int .i64 w)]
theorem A5 {x:Inst} {l:List Vis} {t:Int} : ∀n:Nat,(0<=(chgF x l t n).1/\(chgF x l t n).1<=n)/\(0<=(chgF x l t n).2/\(chgF x l t n).2<=n)
 | 0=>by simp [chgF]
 | n+1=>by
  have ih:=A5 (x:=x) (l:=l) (t:=t) n
  grind [chgF]
theorem SJ (x:Inst) (r:Rte) (s:She) (hty:0<=r.typ/\r.typ<(x.types.length:Int)) (ho:x.orders.length<=1048576) (ht:x.types.length<=1048576) (hl:r.visits.length<=1048576) (hv:Inr x r.visits)
  (hc:0<=(Z0 x r).fixed/\(Z0 x r).fixed<=100000/\0<=(Z0 x r).perMile/\(Z0 x r).perMile<=100/\0<=(Z0 x r).perTick/\(Z0 x r).perTick<=100) (ho2:0<=(Z0 x r).opn/\(Z0 x r).opn<=4096)
  (hf: -4096<=s.fin/\s.fin<=8192) (hm:0<=s.miles/\s.miles<=1000000) :
  PC 90 [.p (Zs x),.p (YJ r),.p (D2 s)] (Df (Mf x r s)):=by
 have hti:r.typ.toNat<x.types.length:=Za
 unfold Mf;have htd:nth x.types r.typ.toNat=Z0 x r:=rfl
 generalize Z0 x r=t at *
 have e1: ¬r.typ<0:=Za
 have e2: ¬(x.types.length:Int)<=r.typ:=Za
 have p1:0<=t.perMile*s.miles/\t.perMile*s.miles<=100*1000000:=⟨Jl Za Za,Qq Za Za Za Za⟩
 have hW: -8192<=s.fin-t.opn/\s.fin-t.opn<=8192:=Za
 have p2: -819200<=t.perTick*(s.fin-t.opn)/\t.perTick*(s.fin-t.opn)<=819200:=by
  generalize s.fin-t.opn=w at hW;have a1:=Cn hW.2 (show 0<=t.perTick by omega);have a2:=Cn hW.1 (show 0<=t.perTick by omega);omega
 have p3: -128<=(s.fin-t.opn).tdiv 64/\(s.fin-t.opn).tdiv 64<=128:=by
  grind
 have p4:0<=(s.fin-t.opn).tdiv 64*(s.fin-t.opn).tdiv 64/\(s.fin-t.opn).tdiv 64*(s.fin-t.opn).tdiv 64<=16384:=by
  generalize (s.fin-t.opn).tdiv 64=q at p3;refine ⟨?_,?_⟩
  ·rcases KV 0 q with h | h
   ·exact Jl h h
   ·exact Int.mul_nonneg_of_nonpos_of_nonpos h h
  ·rcases KV 0 q with h | h
   ·have:=Qq p3.2 p3.2 h Za;omega
   ·have h2:0<= -q:=Za
    have:=Qq (show-q<=128 by omega) (show-q<=128 by omega) h2 Za
    grind
 refine Zc Tryz.func90 rfl Zhs ?_;simp (disch:=omega) only [Tryz.f90,e1,e2,htd,go_sem,seval];refine Zj [3,4,6,9] (fun k:Nat=> [(10,.p (.int .i64 k))]) (fun k=> [Zg x,Z5 r,.cells [.p (.bool s.rest),.p (.int .i64 s.dep),.p (.list s.times_c (s.times.map eTim)),.p (.int .i64 s.fin),.p (.int .i64 s.miles)],BS 0 0 0 0,XV t,BS (t.fixed+t.perMile*s.miles+t.perTick*(s.fin-t.opn)) (chgF x r.visits r.typ k).1 (chgF x r.visits r.typ k).2 ((s.fin-t.opn).tdiv 64*(s.fin-t.opn).tdiv 64)]) (fun k=>k<=r.visits.length) (fun k=>r.visits.length-k) 0 Zb (Weak.mk ?_) ?_
 ·simp (disch:=omega) only [Zg,Z5,XV,BS,chgF,go_sem,seval]
 ·intro k hk;have hch:=A5 (x:=x) (l:=r.visits) (t:=r.typ) k;simp (disch:=omega) only [Zg,Z5,XV,BS,go_sem,seval];refine cD ?_ ?_<;>intro h1<;>simp (disch:=omega) only [Sh.out h1,go_sem,seval,↓reduceIte]
  ·have hk2:k<r.visits.length:=Za
   obtain ⟨v1,v2⟩:=hv _ (Zq hk2)
   have e3: ¬(nth r.visits k).order<0:=Za
   have e4: ¬(x.orders.length:Int)<=(nth r.visits k).order:=Za
   have v3:(nth r.visits k).order.toNat<x.orders.length:=Za
   simp (disch:=omega) only [e3,e4,go_sem,seval];refine (M6 r.visits r.visits_c k hk2 hl).use (Yv ?_);have hcs:chgF x r.visits r.typ (k+1)=_:=chgF.eq_2 x r.visits r.typ k;refine ZH ?_ ?_<;>intro h2
   ·have h2': ¬Ux r.visits k=true:=by grind
    exact ⟨k+1,Za,Za,Weak.mk (by simp (disch:=omega) only [hcs,if_neg h2',go_sem,seval])⟩
   ·have h2':Ux r.visits k=true:=by grind
    refine Xd (Yv ?_);refine gT ?_ ?_<;>intro h3<;>simp (disch:=omega) only [Sh.out h3,go_sem,seval,↓reduceIte]
    ·refine cD ?_ ?_<;>intro h4<;>simp (disch:=omega) only [Sh.out h4,go_sem,seval,↓reduceIte]
     ·have hn:Xh (nth x.orders (nth r.visits k).order.toNat).now r.typ=true:=by simp [Xh,h3,h4]
      refine Xd (Yv ?_);refine US ?_ ?_<;>intro h5
      ·refine ZH ?_ ?_<;>intro h6
       ·have hl2:Xh (nth x.orders (nth r.visits k).order.toNat).last r.typ=true:=by simp [Xh,h5,h6]
        exact ⟨k+1,Za,Za,Weak.mk (by simp (disch:=omega) only [hcs,if_pos h2',hn,hl2,go_sem,seval,↓reduceIte])⟩
       ·have hl2:Xh (nth x.orders (nth r.visits k).order.toNat).last r.typ=false:=by simp_all [Xh]
        exact ⟨k+1,Za,Za,Weak.mk (by simp (disch:=omega) only [hcs,if_pos h2',hn,hl2,V3,Yj,go_sem,seval,↓reduceIte])⟩
      ·have hl2:Xh (nth x.orders (nth r.visits k).order.toNat).last r.typ=false:=by simp_all [Xh]
       exact ⟨k+1,Za,Za,Weak.mk (by simp (disch:=omega) only [hcs,if_pos h2',hn,hl2,V3,Yj,go_sem,seval,↓reduceIte])⟩
     ·have hn:Xh (nth x.orders (nth r.visits k).order.toNat).now r.typ=false:=by simp_all [Xh]
      refine Xd (Yv ?_);refine US ?_ ?_<;>intro h5
      ·refine ZH ?_ ?_<;>intro h6
       ·have hl2:Xh (nth x.orders (nth r.visits k).order.toNat).last r.typ=true:=by simp [Xh,h5,h6]
        exact ⟨k+1,Za,Za,Weak.mk (by simp (disch:=omega) only [hcs,if_pos h2',hn,hl2,V3,Yj,go_sem,seval,↓reduceIte])⟩
       ·have hl2:Xh (nth x.orders (nth r.visits k).order.toNat).last r.typ=false:=by grind
        exact ⟨k+1,Za,Za,Weak.mk (by simp (disch:=omega) only [hcs,if_pos h2',hn,hl2,V3,Yj,go_sem,seval,↓reduceIte])⟩
      ·have hl2:Xh (nth x.orders (nth r.visits k).order.toNat).last r.typ=false:=by simp_all [Xh]
       exact ⟨k+1,Za,Za,Weak.mk (by simp (disch:=omega) only [hcs,if_pos h2',hn,hl2,V3,Yj,go_sem,seval,↓reduceIte])⟩
    ·have hn:Xh (nth x.orders (nth r.visits k).order.toNat).now r.typ=false:=by simp_all [Xh]
     refine Xd (Yv ?_);refine US ?_ ?_<;>intro h5
     ·refine ZH ?_ ?_<;>intro h6
      ·have hl2:Xh (nth x.orders (nth r.visits k).order.toNat).last r.typ=true:=by simp [Xh,h5,h6]
       exact ⟨k+1,Za,Za,Weak.mk (by simp (disch:=omega) only [hcs,if_pos h2',hn,hl2,V3,Yj,go_sem,seval,↓reduceIte])⟩
      ·have hl2:Xh (nth x.orders (nth r.visits k).order.toNat).last r.typ=false:=by simp_all [Xh]
       exact ⟨k+1,Za,Za,Weak.mk (by simp (disch:=omega) only [hcs,if_pos h2',hn,hl2,V3,Yj,go_sem,seval,↓reduceIte])⟩
     ·have hl2:Xh (nth x.orders (nth r.visits k).order.toNat).last r.typ=false:=by grind
      exact ⟨k+1,Za,Za,Weak.mk (by simp (disch:=omega) only [hcs,if_pos h2',hn,hl2,V3,Yj,go_sem,seval,↓reduceIte])⟩
  grind
theorem SqOk.len {x:Inst} {l:List Vis} (h:SqOk x l) (hn:x.orders.length<=10):l.length<=20:=by
 have h1:=List.Nodup.length_le_of_subset (l₁ :=l) (l₂ :=(List.range 10).flatMap fun i:Nat=> [(⟨(i:Int),false⟩:Vis),⟨(i:Int),true⟩]) h.nd (fun v hv=>by
  obtain ⟨v1,v2⟩:=h.inr v hv;rw [Yk];refine ⟨v.order.toNat,Xa.2 Za,?_⟩;obtain ⟨o,d⟩:=v
  have e:((o.toNat:Nat):Int)=o:=by grind
  simp_all)
 have h2:((List.range 10).flatMap fun i:Nat=> [(⟨(i:Int),false⟩:Vis),⟨(i:Int),true⟩]).length=20:=rfl;omega
theorem SqOk.vis {x:Inst} {l:List Vis} (h:SqOk x l) {v:Vis} (hv:v∈l):Ky x v=true:=by
 obtain ⟨v1,v2⟩:=h.inr v hv;obtain ⟨i,hi⟩: ∃i:Nat,v.order=(i:Int):=⟨v.order.toNat,Za⟩;have ho:=h.own (i:=i) ⟨v,hv,hi⟩
 have hpl:0<=(XC x v).place:=by
  unfold XC;rw [hi,XK]
  cases hd:v.drp with
  | true=>exact ho.isD (by rw [<- hi,<- hd];exact hv)
  | false=>exact ho.isP (by rw [<- hi,<- hd];exact hv)
 simp [Ky,Ls,v1,v2,hpl]
theorem nD {x:Inst} {r:Rte} (h:SqOk x r.visits) (hn:x.orders.length<=10) (ht:0<=r.typ/\r.typ<(x.types.length:Int)):VR x r=(decide (0<=r.start)&&decide (r.start<=4096)):=by
 have h1:r.visits.all (Ky x)=true:=ZC.2 fun v hv=>h.vis hv;have h2:=h.len hn
 grind [VR]
theorem Pn {n:Net} (h:netOk n):netR n/\ ∀a∈n.arcs,0<=a.miles/\a.miles<=10000:=by
 obtain ⟨⟨⟨h1,_⟩,h2⟩,h3⟩:=h
 have ha: ∀a∈n.arcs,jQ a/\0<=a.miles/\a.miles<=10000:=fun a hm=>by
  obtain ⟨i,hi,rfl⟩:=ZD.1 hm;have:=h3 i hi;unfold IC at this;rw [Zi hi] at this;obtain ⟨⟨⟨⟨⟨_,g1⟩,_⟩,g2⟩,g3⟩,g4⟩:=this;refine ⟨⟨g2,g3,fun p hp=> ?_⟩,g1.2.2.1,g1.2.2.2.1⟩;obtain ⟨j,hj,rfl⟩:=ZD.1 hp
  simp_all [Ku,Zi,If,rng]
 exact ⟨⟨Za,Za,fun a hm=>(ha a hm).1⟩,fun a hm=>(ha a hm).2⟩
theorem UO {x:Inst} (hx:InstOk x) {i:Nat} (hi:i<x.types.length):(0<=(nth x.types i).opn/\(nth x.types i).opn<=(nth x.types i).cls/\(nth x.types i).cls<=4096)/\(1<=(nth x.types i).drive/\(nth x.types i).drive<=4096)/\(0<=(nth x.types i).rest/\(nth x.types i).rest<=4096) /\
  (0<=(nth x.types i).fixed/\(nth x.types i).fixed<=100000/\0<=(nth x.types i).perMile/\(nth x.types i).perMile<=100/\0<=(nth x.types i).perTick/\(nth x.types i).perTick<=100)/\(0<=(nth x.types i).skills/\(nth x.types i).skills<=1073741823):=by
 have ht:=hx.types.2 i hi
 simp_all [Au,rng]
theorem BY {x:Inst} {r:Rte} (hx:InstOk x) (ht:0<=r.typ/\r.typ<(x.types.length:Int)) (h:SqOk x r.visits):TrpOk x (Z0 x r) (Z8 x r.visits):=by
 have hti:r.typ.toNat<x.types.length:=Za
 obtain ⟨t1,t2,t3,_⟩:=UO hx hti;obtain ⟨n1,n2⟩:=Pn hx.net;refine ⟨n1,n2,t1,t2,t3,fun s hs=> ?_,by rw [Yu];exact h.len hx.orders.1⟩;obtain ⟨v,hv,rfl⟩:=Xz.1 hs;obtain ⟨v1,v2⟩:=h.inr v hv
 have hi:v.order.toNat<x.orders.length:=Za
 have ho:=hx.orders.2 _ hi;have hvis:=h.vis hv;have hp:=ho.pstp;have hd:=ho.dstp;simp only [stpOk,Zl] at hp hd;simp only [Ky,ZG,Zl] at hvis;have h3:=hvis.2;unfold XC at h3 ⊢
 grind
theorem L9 {x t sp} (h:TrpOk x t sp): ∀(bs:List Bool) (k:Nat) (L:Lab),k+bs.length=sp.length+1->LabR k L->(XG x t sp k L bs).2=0->LabR (sp.length+1) (XG x t sp k L bs).1/\(bs≠ []->(XG x t sp k L bs).1.she.fin=(XG x t sp k L bs).1.ready)
 | [],k,L,hk,hl,h0=>by
  simp at hk;subst hk;exact ⟨hl,fun h=>absurd rfl h⟩
 | b::bs,k,L,hk,hl,h0=>by
  simp at hk;rw [XG] at h0 ⊢
  split at h0
  ·rename_i c;rw [if_pos c];obtain ⟨h1,h2⟩:=L9 h bs (k+1) _ Za (HP h Za hl c) h0;refine ⟨h1,fun _=> ?_⟩
   cases bs with
   | nil =>
    simp at hk;subst hk;exact LO (x:=x) (t:=t) (sp:=sp) (y:=L) (b:=b) (by rw [XJ,if_pos c];rfl)
   | cons b2 bs=>grind
  omega
theorem DX {x t sp} {st:Int} {r:List Bool} (h:TrpOk x t sp) (hs:0<=st/\st<=4096) (hr:r.length<=sp.length+1) (h0:(Up x t sp st r).2=0):(0<=(Up x t sp st r).1.fin/\(Up x t sp st r).1.fin<=8192)/\(0<=(Up x t sp st r).1.miles/\(Up x t sp st r).1.miles<=210000):=by
 have hL0:LabR 0 (labF t st):=⟨by have:=h.opn;grind [labF],by simp [labF],by simp [labF,zShe]⟩;have hl:=h.len
 have key: ∀bs∈YZ r (sp.length+1),(XG x t sp 0 (labF t st) bs).2=0->(0<=(XG x t sp 0 (labF t st) bs).1.she.fin/\(XG x t sp 0 (labF t st) bs).1.she.fin<=8192)/\(0<=(XG x t sp 0 (labF t st) bs).1.she.miles/\(XG x t sp 0 (labF t st) bs).1.she.miles<=210000):=fun bs hbs he=>by
  obtain ⟨q,hq,rfl⟩:=Xz.1 hbs;have hql:=bestF_len.fromB_len _ _ hq;simp at hql
  have hne:r++q≠ []:=fun e=>by
   simp_all
  obtain ⟨g1,g2⟩:=L9 h (r++q) 0 _ (by simp;omega) hL0 he;rw [g2 hne];have:=g1.rdy;have:=g1.mil;omega
 unfold Up at h0 ⊢
 cases hf:Vn Wb none ((YZ r (sp.length+1)).filterMap (Vm (XJ x t sp) 0 (labF t st))) with
 | some L =>
  simp only;have:=bestF_len.fmL_mem _ _ hf
  grind [VS]
 | none =>
  grind [zShe]
theorem Ro (x:Inst) (r:Rte) (ho:x.orders.length<=1048576) (ht:x.types.length<=1048576) (hl:r.visits.length<=1048576) (hbad:VR x r=false\/r.visits.length+1<r.rests.length) :
  PT 89 [.p (Zs x),.p (YJ r)] [.p (D2 zShe),.p (.int .i64 2)]:=by
 refine Ze [] Tryz.func89 rfl rH ?_;simp (disch:=omega) only [Tryz.f89,go_sem,seval];refine (EG x r ho ht hl).use (Yv ?_);refine gF ?_ ?_<;>intro h1<;>simp (disch:=omega) only [Sh.out h1,go_sem,seval,↓reduceIte]
 ·exact we (by simp (disch:=omega) only [zShe,Zk,go_sem,seval])
 ·have h2:r.visits.length+1<r.rests.length:=hbad.resolve_left (by grind);refine cD ?_ ?_<;>intro h3<;>simp (disch:=omega) only [Sh.out h3,go_sem,seval,↓reduceIte]
  ·exact we (by simp (disch:=omega) only [zShe,Zk,go_sem,seval])
  ·omega
theorem kV (x:Inst) (r:Rte) (hx:InstOk x) (hl:r.visits.length<=1048576):PC 86 [.p (Zs x),.p (YJ r)] (.int .i64 (Xm x r.visits)):=by
 have hf:=Ym hx;have hr:=hx.rules;obtain ⟨h1,h2⟩:=Jq.1 hr
 have ha:x.apart.length<=1048576:=by
  have h3:=(Jq.1 h1).1
  grind [MN]
 have hb:x.before.length<=1048576:=by
  have h3:=(Jq.1 h2).1
  grind [MN]
 have:=NW x r (by have:=hf.len;omega) hl ha hb hf.plc
 grind [nJ]
def A8 (x:Inst) (r:Rte):V:= .tup [.p (D2 (Uw x r)),.p (Df (J6 x r)),.p (.int .i64 (XI x r))]
theorem Yl {x:Inst} {r:Rte} {e:Int} (h:XI x r=e) (h0:e≠0):A8 x r= .tup [.p (D2 zShe),.p (Df zSco),.p (.int .i64 e)]:=by
 simp_all [A8,Uw,J6]
theorem A9 (x:Inst) (r:Rte) (hx:InstOk x) (hl:r.visits.length<=1048576) (hrl:r.rests.length<=1048576):ACalls Tryz.prog 48 [.p (Zs x),.p (YJ r)] [] fun y H'=>y=A8 x r/\H'= []:=by
 have hld:=UZ hx;have htl:=hld.typ;have hol:=hld.ord;have chk:=kV x r hx hl
 have htb:x.types.length<=6:=by have:=hx.types.1;simp only [rng,Zl] at this;omega
 refine Ze [] Tryz.func48 rfl Zg8 ?_;simp (disch:=omega) only [Tryz.f48,go_sem,seval];refine gF ?_ ?_<;>intro h1<;>simp (disch:=omega) only [Sh.out h1,go_sem,seval,↓reduceIte]
 ·have e:Yd x r=2:=by rw [Yd,if_pos Za]
  rw [Yl (e:=2) (by rw [XI,e];rfl) Za];exact we (by simp (disch:=omega) only [zShe,zSco,Zk,go_sem,seval])
 ·refine cD ?_ ?_<;>intro h2<;>simp (disch:=omega) only [Sh.out h2,go_sem,seval,↓reduceIte]
  ·have e:Yd x r=2:=by simp_all [Yd]
   rw [Yl (e:=2) (by rw [XI,e];rfl) Za];exact we (by simp (disch:=omega) only [zShe,zSco,Zk,go_sem,seval])
  ·have hty:0<=r.typ/\r.typ<(x.types.length:Int):=Za
   have hti:r.typ.toNat<x.types.length:=Za
   refine (chk).use (Yv ?_);refine cD ?_ ?_<;>intro h3<;>simp (disch:=omega) only [Sh.out h3,go_sem,seval,↓reduceIte]
   ·have e:Yd x r=Xm x r.visits:=by simp_all [Yd]
    rw [Yl (e:=Xm x r.visits) (by simp_all [XI]) h3];exact we (by simp (disch:=omega) only [zShe,zSco,Zk,go_sem,seval])
   ·have h3':=Xk.1 h3;have hsq:=U9 h3'
    have hvn:0<r.visits.length:=by
     have:=hsq.ne
     grind
    have hok:=BY hx hty hsq;have hnum:=UO hx hti
    have hr0:Yd x r=if (r.visits.any fun v=> !Wz (Z0 x r) (nth x.orders v.order.toNat).skills)=true then 18 else if U3 x (Z0 x r).cap r.visits=false then 17 else if ¬(0<=r.start/\r.start<=4096/\r.rests.length<=r.visits.length+1) then 2 else 0:=by
     rw [Yd,if_neg (fun h=>h hty),if_neg h3]
    have htyp:nth x.types r.typ.toNat=Z0 x r:=rfl;rw [htyp] at hnum;have hf17:=bN x r hx hl hty h3' chk;have hposs:=nD hsq hol hty
    have hsk: ∀k,k<r.visits.length->(nth r.visits k).order.toNat<x.orders.length/\0<=(nth x.orders (nth r.visits k).order.toNat).skills/\(nth x.orders (nth r.visits k).order.toNat).skills<=1073741823:=fun k hk=>by
     obtain ⟨v1,v2⟩:=hsq.inr _ (Zq hk)
     have hi:(nth r.visits k).order.toNat<x.orders.length:=Za
     exact ⟨hi,(hx.orders.2 _ hi).skills⟩
    refine Zj [2,3,4,5] (fun k:Nat=> [(8,.p (.int .i64 k))]) (fun _=> [Zg x,Z5 r,.cells [.p (.bool false),.p (.int .i64 0),.p (.list true []),.p (.int .i64 0),.p (.int .i64 0)],BS 0 0 0 0])
     (fun k=>k<=r.visits.length/\ ∀j,j<k->Wz (Z0 x r) (nth x.orders (nth r.visits j).order.toNat).skills=true) (fun k=>r.visits.length-k) 0 Zb (Weak.mk ?_) ?_
    ·simp (disch:=omega) only [Zg,Z5,BS,go_sem,seval]
    ·rintro k ⟨hk,hno⟩;simp (disch:=omega) only [Zg,Z5,BS,go_sem,seval];refine cD ?_ ?_<;>intro h4<;>simp (disch:=omega) only [Sh.out h4,go_sem,seval,↓reduceIte]
     ·have hk2:k<r.visits.length:=Za
      obtain ⟨s1,s2,s3⟩:=hsk k hk2;obtain ⟨v1,v2⟩:=hsq.inr _ (Zq hk2);refine Xd ?_;simp (disch:=omega) only [htyp,go_sem,seval];refine Zo (TE (Z0 x r) (nth x.orders (nth r.visits k).order.toNat).skills Za Za) (Yv ?_);refine ZH ?_ ?_<;>intro h5
      ·have e:Yd x r=18:=by
        rw [hr0,if_pos]
        grind [Zq]
       rw [Yl (e:=18) (by rw [XI,e];rfl) Za];exact we (by simp (disch:=omega) only [zShe,zSco,Zk,go_sem,seval])
      ·exact ⟨k+1,⟨Za,Zn.2 ⟨hno,by grind⟩⟩,Za,wk⟩
     ·have hkl:k=r.visits.length:=Za
      subst hkl
      have hall: ¬(r.visits.any fun v=> !Wz (Z0 x r) (nth x.orders v.order.toNat).skills)=true:=fun h=>by
       obtain ⟨v,hv,hb⟩:=UE.1 h;obtain ⟨j,hj,rfl⟩:=ZD.1 hv
       grind [Zi]
      rw [if_neg hall] at hr0;refine (hf17).use (Yv ?_)
      cases hlb:U3 x (Z0 x r).cap r.visits with
      | false =>
       have e:Yd x r=17:=by grind
       simp only [Yj,Ys];refine Yv ?_;rw [Yl (e:=17) (by rw [XI,e];rfl) Za];exact we (by simp (disch:=omega) only [zShe,zSco,Zk,go_sem,seval])
      | true =>
       rw [hlb,if_neg Zb] at hr0;simp only [if_true];refine Yv ?_
       by_cases h6:0<=r.start/\r.start<=4096/\r.rests.length<=r.visits.length+1
       ·have e:Yd x r=0:=Za
        have hp:VR x r=true:=by grind
        have ee:XI x r=(XB x r).2:=by rw [XI,if_pos e]
        have cb:=T2 x r hok Za htl hvn hp h6.2.2;have hbr:=DX hok ⟨h6.1,h6.2.1⟩ (by rw [Yu];exact h6.2.2);have hbr:(XB x r).2=0->_:=hbr
        change (XB x r).2=0->(0<=(XB x r).1.fin/\(XB x r).1.fin<=8192)/\(0<=(XB x r).1.miles/\(XB x r).1.miles<=210000) at hbr
        have es:Uw x r=if (XB x r).2=0 then (XB x r).1 else zShe:=by rw [Uw,ee]
        have ep:J6 x r=if (XB x r).2=0 then Mf x r (XB x r).1 else zSco:=by rw [J6,ee]
        unfold A8;rw [ee,es,ep];clear ee es ep
        generalize XB x r=q at *
        obtain ⟨sh,eb⟩:=q;simp only at cb hbr ⊢;refine X0 cb (Yv ?_);refine cD ?_ ?_<;>intro h7<;>simp (disch:=omega) only [Sh.out h7,go_sem,seval,↓reduceIte]
        ·exact we (by simp (disch:=omega) only [zShe,zSco,Zk,go_sem,seval])
        ·have h7':=Xk.1 h7
         try rw [if_pos h7',if_pos h7']
         subst h7';obtain ⟨g1,g2⟩:=hbr rfl;refine Z1 5 mixed Zd Zd (Yv ?_);refine Zo (SJ x r sh hty Za htl hl hsq.inr hnum.2.2.2.1 Za Za Za) (Yv ?_);exact we
       ·have e:Yd x r=2:=Za
        rw [Yl (e:=2) (by rw [XI,e];rfl) Za];refine X0 (Ro x r Za htl hl ?_) ?_
        ·grind
        ·refine Yv ?_;exact we (by simp (disch:=omega) only [zShe,zSco,Zk,go_sem,seval])
theorem S8 (x:Inst) (r:Rte) (hx:InstOk x) (hl:r.visits.length<=1048576) (hrl:r.rests.length<=1048576):PC 46 [.p (Zs x),.p (YJ r)] (.int .i64 (XI x r)):=by
 have ce:=A9 x r hx hl hrl;refine Zc Tryz.func46 rfl Zg7 ?_;simp (disch:=omega) only [Tryz.f46,go_sem,seval];unfold A8 at ce;refine GT ce ?_;simp (disch:=omega) only [go_sem,seval,↓reduceIte]
theorem Rp {x t sp} {st:Int} {r:List Bool} (hr:r.length<=sp.length+1) (h:(Up x t sp st r).2=0): ∃bs:List Bool,bs.length=sp.length+1/\(XG x t sp 0 (labF t st) bs).2=0/\(Up x t sp st r).1=(XG x t sp 0 (labF t st) bs).1.she:=by
 unfold Up at h ⊢
 cases hf:Vn Wb none ((YZ r (sp.length+1)).filterMap (Vm (XJ x t sp) 0 (labF t st))) with
 | none =>
  rw [hf] at h;simp only at h ⊢;exfalso
  have hm:Y6 r (sp.length+1)∈YZ r (sp.length+1):=by
   grind [YZ,Y6,fromB_next]
  have h2:Vm (XJ x t sp) 0 (labF t st) (Y6 r (sp.length+1))=some (XG x t sp 0 (labF t st) (Y6 r (sp.length+1))).1:=by rw [VS,if_pos h]
  have h3:(XG x t sp 0 (labF t st) (Y6 r (sp.length+1))).1∈(YZ r (sp.length+1)).filterMap (Vm (XJ x t sp) 0 (labF t st)):=Bq.2 ⟨_,hm,h2⟩;generalize (YZ r (sp.length+1)).filterMap (Vm (XJ x t sp) 0 (labF t st))=l at hf h3
  cases l with
  | nil=>simp at h3
  | cons a l =>
   rw [Vn] at hf;obtain ⟨z,e,_⟩:=QF Wb l a
   grind
 | some L =>
  simp only;have hm:=bestF_len.fmL_mem _ _ hf;obtain ⟨bs,hbs,hrun⟩:=Bq.1 hm;rw [VS] at hrun
  split at hrun
  ·rename_i h5;simp at hrun;subst hrun;obtain ⟨q,hq,rfl⟩:=Xz.1 hbs;have hql:=bestF_len.fromB_len _ _ hq
   grind
  ·cases hrun
structure Sr where
 rdy:Int
 drv:Int
 deriving Inhabited,DecidableEq
def V9 (l:List Sr) (s:Sr):List Sr:=if s∈l then l else l++ [s]
def Vf (t:Typ) (l:List Sr) (d v:Int):List Sr:=V9 (V9 l ⟨d,v⟩) ⟨d+t.rest,0⟩
def QZ (x:Inst) (t:Typ) (from':Int) (stop:Stp) (out:List Sr) (a:Sr):List Sr :=
 if ¬(WX x.net t.prof from' stop.place a.rdy).2.2=0\/t.drive<a.drv+(WX x.net t.prof from' stop.place a.rdy).1-a.rdy then out
 else if stop.cls<max (WX x.net t.prof from' stop.place a.rdy).1 stop.opn then out
 else Vf t out (max (WX x.net t.prof from' stop.place a.rdy).1 stop.opn+stop.serv) (a.drv+(WX x.net t.prof from' stop.place a.rdy).1-a.rdy)
def CL (x:Inst) (t:Typ) (from':Int) (st:List Sr) (stop:Stp):List Sr:=st.foldl (QZ x t from' stop) []
theorem RZ {l:List Sr} {s a:Sr} :a∈V9 l s↔a∈l\/a=s:=by
 grind [V9]
theorem WQ {t:Typ} {l:List Sr} {d v:Int} {a:Sr} :a∈Vf t l d v↔a∈l\/a=⟨d,v⟩\/a=⟨d+t.rest,0⟩:=by
 simp [Vf,RZ,or_assoc]
theorem OM {n:Nat} (h:n<10):dec n= [UInt8.ofNat (48+n)]:=by rw [dec,dif_pos h]
theorem lG {n:Nat} (h:10<=n) (h2:n<100):dec n= [UInt8.ofNat (48+n / 10),UInt8.ofNat (48+n%10)]:=by
 rw [dec,dif_neg Za,OM Za];rfl
theorem IF {s:List UInt8} {k k':IntKind} {a b:Int} (h:0<=a/\a<=b/\b<=(s.length:Int)):Hd (some .string) s (.p (.int k a)) (.p (.int k' b))=some (.p (.str ((s.take b.toNat).drop a.toNat))):=by
 simp_all [Hd]
def digT : List UInt8:=(List.range 36).map fun i=>UInt8.ofNat (if i<10 then 48+i else 87+i)
def smalT : List UInt8:=(List.range 100).flatMap fun i=> [UInt8.ofNat (48+i / 10),UInt8.ofNat (48+i%10)]
theorem lH : ∀n,n<10->(digT.take (n+1)).drop n= [UInt8.ofNat (48+n)]:=by decide
theorem gS : ∀n,n<100->(smalT.take (2*n+2)).drop (2*n)= [UInt8.ofNat (48+n / 10),UInt8.ofNat (48+n%10)]:=by decide+kernel
theorem nX (n:Nat) (hn:n<100):PC 331 [.p (.int .i64 (n:Int))] (.str (dec n)):=by
 refine Zc Tryz.func331 rfl ZaY ?_;simp (disch:=omega) only [Tryz.f331,go_sem,seval];refine cD ?_ ?_<;>intro h<;>simp (disch:=omega) only [Sh.out h,go_sem,seval]
 ·rw [OM Za,IF (by simp;omega)]
  have e1:((n:Int)+1).toNat=n+1:=Za
  have e2:((n:Int)).toNat=n:=Za
  rw [e1,e2];refine (Qm (fun z=>AJ (some (V.p (PV.str z))) _) (lH n Za)).mpr ?_;simp (disch:=omega) only [go_sem,seval]
 ·rw [lG Za hn,IF (by simp;omega)]
  have e1:((n:Int)*2+2).toNat=2*n+2:=Za
  have e2:((n:Int)*2).toNat=2*n:=Za
  rw [e1,e2];refine (Qm (fun z=>AJ (some (V.p (PV.str z))) _) (gS n Za)).mpr ?_;simp (disch:=omega) only [go_sem,seval]
theorem bU (n:Nat) (hn:n<100):PC 330 [.p (.int .i64 (n:Int)),.p (.int .i64 10)] (.str (dec n)):=by
 refine Zc Tryz.func330 rfl ZaX ?_
 have h0:(0:Int)<=(n:Int):=Za
 have h1:(n:Int)<100:=Za
 simp (disch:=omega) only [Tryz.f330,h0,h1,go_sem,seval];refine (nX n hn).use ?_;simp (disch:=omega) only [go_sem,seval]
theorem lZ (n:Nat) (hn:n<100):PC 329 [.p (.int .i64 (n:Int))] (.str (dec n)):=by
 refine Zc Tryz.func329 rfl ZaW ?_;simp (disch:=omega) only [Tryz.f329,go_sem,seval];refine (bU n hn).use ?_;simp (disch:=omega) only [go_sem,seval]
theorem ZaZ (n:Nat) (hn:n<100):PC 328 [.p (.int .i64 (n:Int))] (.str (dec n)):=by
 refine Zc Tryz.func328 rfl ZaV ?_;simp (disch:=omega) only [Tryz.f328,go_sem,seval];refine (lZ n hn).use ?_;simp (disch:=omega) only [go_sem,seval]
theorem MF (n a b:Int):PC 321 [.p (.int .i64 n),.p (.int .i64 a),.p (.int .i64 b)] (.bool (decide (a<=n)&&decide (n<=b))):=by
 refine Zc Tryz.func321 rfl ZaO ?_;simp (disch:=omega) only [Tryz.f321,go_sem,seval]
 repeat' (first | (refine gT ?_ ?_<;>intro hq<;>simp (disch:=omega) only [Sh.out hq,go_sem,seval,↓reduceIte]) | (refine Um (fun hq=> ?_) (fun hq=> ?_)<;>(try simp only [Zl,X3,Xk] at hq)<;>simp (disch:=omega) only [Sh.out hq,go_sem,seval]) | (refine UT (fun hq=> ?_) (fun hq=> ?_)<;>(try simp only [Zl,X3,Xk] at hq)<;>simp (disch:=omega) only [Sh.out hq,go_sem,seval]))
 all_goals (simp;first | done | omega)
theorem eO (l:List Pt) (c:Bool) (hl:WZ l):PC 325 [.p (.list c (l.map Fe))] (.list true []):=by
 obtain ⟨⟨hl1,hl2⟩,hpt⟩:=hl;refine Zc Tryz.func325 rfl ZaS ?_
 have e1: ¬(l.length:Int)=0:=Za
 have e2: ¬(16:Int)<(l.length:Int):=Za
 simp (disch:=omega) only [Tryz.f325,e1,e2,go_sem,seval];refine Zj [0,19,20] (fun k:Nat=> [(3,.p (.list true [])),(21,.p (.int .i64 k))]) (fun _=> []) (fun k=>k<=l.length) (fun k=>l.length-k) 0 Zb (Weak.mk ?_) ?_
 ·simp (disch:=omega) only [go_sem,seval,↓reduceIte]
 ·intro k hk;refine Yv ?_;refine cD ?_ ?_<;>intro h<;>simp (disch:=omega) only [Sh.out h,go_sem,seval,↓reduceIte]
  ·have hk2:k<l.length:=Za
   obtain ⟨⟨p1,p2,p3,p4⟩,q⟩:=hpt k hk2;refine (ZaZ k Za).use (Yv ?_);refine (MF (nth l k).t 0 4096).use (Yv ?_);simp (disch:=omega) only [p1,p2,go_sem,seval];refine gF ?_ ?_<;>intro h3<;>simp (disch:=omega) only [Sh.out h3,go_sem,seval,↓reduceIte]
   ·omega
   ·refine cD ?_ ?_<;>intro h4<;>simp (disch:=omega) only [Sh.out h4,go_sem,seval,↓reduceIte]
    ·omega
    ·refine Xd (Yv ?_);refine gT ?_ ?_<;>intro h5<;>simp (disch:=omega) only [Sh.out h5,go_sem,seval,↓reduceIte]
     ·obtain ⟨r1,r2⟩:=q Za;refine gF ?_ ?_<;>intro h6<;>simp (disch:=omega) only [Sh.out h6,go_sem,seval,↓reduceIte]
      ·omega
      ·refine cD ?_ ?_<;>intro h7<;>simp (disch:=omega) only [Sh.out h7,go_sem,seval,↓reduceIte]
       ·omega
       ·exact ⟨k+1,Za,Za,wk⟩
     ·exact ⟨k+1,Za,Za,wk⟩
theorem OG (p:Pt) (t:Int) (h:0<=p.t/\p.t<=4096) (ht:0<=t/\t<=1073741824):PC 327 [.p (Fe p),.p (.int .i64 t)] (.int .i64 (p.t-t)):=by
 refine Zc Tryz.func327 rfl ZaU ?_;simp (disch:=omega) only [Tryz.f327,go_sem,seval,↓reduceIte]
theorem nM (l:List Pt) (c:Bool) (hl:WZ l):PC 322 [.p (.list c (l.map Fe))] (.bool true):=by
 refine Zc Tryz.func322 rfl ZaP ?_;simp (disch:=omega) only [Tryz.f322,go_sem,seval];refine (eO l c hl).use ?_;simp (disch:=omega) only [go_sem,seval]
structure PosT (l:List Pt) (t:Int) (i:Nat):Prop where
 le:i<=l.length
 lo: ∀j,j<i->(nth l j).t<t
 hi: ∀j,i<=j->j<l.length->t<=(nth l j).t
theorem Zgk (l:List Pt) (c:Bool) (t:Int) (i:Nat) (hl:WZ l) (ht:0<=t/\t<=1073741824) (hi:PosT l t i):PT 326 [.p (.list c (l.map Fe)),.p (.int .i64 t),.fn (.func 327) [] []] [.p (.int .i64 (i:Int)),.p (.bool (decide (i<l.length)&&decide ((nth l i).t=t)))]:=by
 obtain ⟨⟨hl1,hl2⟩,hpt⟩:=hl;obtain ⟨hi1,hi2,hi3⟩:=hi;refine Ze [] Tryz.func326 rfl ZaT ?_;simp (disch:=omega) only [Tryz.f326,go_sem,seval];refine Zj [0,1,2,8] (fun q:Nat×Nat=> [(9,.p (.int .i64 q.1)),(10,.p (.int .i64 q.2))]) (fun _=> []) (fun q=>q.1<=i/\i<=q.2/\q.2<=l.length) (fun q=>q.2-q.1) (0,l.length) (by simp;omega) (Weak.mk ?_) ?_
 ·simp (disch:=omega) only [go_sem,seval,↓reduceIte]
 ·rintro ⟨a,b⟩ ⟨h1,h2,h3⟩;simp only at h1 h2 h3;refine Yv ?_;refine cD ?_ ?_<;>intro h<;>simp (disch:=omega) only [Sh.out h,go_sem,seval,↓reduceIte]
  ·have hm:(a+b) / 2<l.length:=Za
   obtain ⟨⟨p1,p2,p3,p4⟩,q⟩:=hpt _ hm
   have hs:((a:Int)+(b:Int)).fdiv (2^min 1 64)=(((a+b) / 2:Nat):Int):=by
    grind
   have em:((((a+b) / 2:Nat)):Int).toNat=(a+b) / 2:=Za
   have hnb:((a+b) / 2<i)↔(nth l ((a+b) / 2)).t-t<0:=by
    grind
   rw [hs];refine Yv ?_;refine (OG (nth l ((a+b) / 2)) t ⟨p1,p2⟩ ht).use (Yv ?_);refine cD ?_ ?_<;>intro h4<;>simp (disch:=omega) only [Sh.out h4,go_sem,seval,↓reduceIte]
   ·exact ⟨((a+b) / 2+1,b),⟨Za,h2,h3⟩,Za,wk⟩
   ·exact ⟨(a,(a+b) / 2),⟨h1,Za,Za⟩,Za,wk⟩
  ·have:a=i:=Za
   subst this;refine gT ?_ ?_<;>intro h4<;>simp (disch:=omega) only [Sh.out h4,go_sem,seval,↓reduceIte]
   ·have hm:a<l.length:=Za
    obtain ⟨⟨p1,p2,p3,p4⟩,q⟩:=hpt _ hm;refine (OG (nth l a) t ⟨p1,p2⟩ ht).use (Yv ?_);have e5:((nth l a).t-t=0)=((nth l a).t=t):=propext Za;exact we (by simp (disch:=omega) only [e5,hm,go_sem,seval])
   ·have hm: ¬a<l.length:=Za
    exact we (by simp (disch:=omega) only [hm,go_sem,seval])
theorem BI {l:List Pt} (hl:WZ l) {k:Nat} (hk:k<l.length): ∀j,j<k->(nth l j).t<(nth l k).t:=by
 obtain ⟨_,hpt⟩:=hl
 induction k with
 | zero=>omega
 | succ k ih =>
  intro j hj;obtain ⟨_,q⟩:=hpt (k+1) hk
  grind
theorem nC {l:List Pt} (hl:WZ l) (t:Int): ∃i,PosT l t i:=by
 have: ∀n,n<=l.length-> ∃i,i<=n/\(∀j,j<i->(nth l j).t<t)/\(i<n->t<=(nth l i).t):=by
  intro n
  induction n with
  | zero=>simp
  | succ n ih =>
   grind
 obtain ⟨i,h1,h2,h3⟩:=this l.length (ZL _);refine ⟨i,h1,h2,fun j hj hjl=> ?_⟩;rcases Nat.lt_or_eq_of_le hj with h | h
 ·have:=BI hl hjl i h;omega
 grind
theorem jS {l:List Pt} {t:Int} {i:Nat} (hl:WZ l) (h:PosT l t i) (hi:i<l.length) (e:(nth l i).t=t):JY l t=(nth l i).a:=by
 by_cases g:i+1<l.length
 ·have m:=BI hl g i Za;rw [Hc g (fun j hj=> ?_) (by grind [QS]),Mh]
  ·rw [e,Int.sub_self,Int.zero_mul,Int.zero_add];rw [Int.ediv_eq_zero_of_lt Za Za];omega
  ·have:(nth l (j+1)).t<=t:=by
    rcases Nat.lt_or_eq_of_le (show j+1<=i by omega) with h1 | h1
    ·have:=h.lo _ h1;omega
    grind
   simp [QS];omega
 ·have hi1:i=l.length-1:=Za
  rw [Dl (fun j hj=> ?_)]
  ·split
   ·grind
   ·have:i=0:=by
     by_cases g2:i=0
     ·exact g2
     ·have:=h.lo 0 Za;omega
    grind
  ·have:(nth l (j+1)).t<=t:=by
    rcases Nat.lt_or_eq_of_le (show j+1<=i by omega) with h1 | h1
    ·have:=h.lo _ h1;omega
    grind
   simp [QS];omega
theorem jU {l:List Pt} {t:Int} (hl:WZ l) (h:PosT l t 0) (e: ¬(nth l 0).t=t):JY l t=t+(nth l 0).a-(nth l 0).t:=by
 have h0:=h.hi 0 (ZL _) hl.1.1;rw [Dl (fun j hj=> ?_),if_neg Za]
 have:t<(nth l j).t:=by
  by_cases g:j=0
  ·grind
  ·have:=BI hl (show j<l.length by omega) 0 Za;omega
 simp [QS];omega
theorem jT {l:List Pt} {t:Int} (h:PosT l t l.length) (hl:0<l.length):JY l t=t+(nth l (l.length-1)).a-(nth l (l.length-1)).t:=by
 rw [Dl (fun j hj=> ?_),if_pos (h.lo 0 hl)];have:=h.lo (j+1) hj;simp [QS];omega
theorem TU {l:List Pt} {t:Int} {i:Nat} (h:PosT l t i) (h0:0<i) (hi:i<l.length) (e: ¬(nth l i).t=t):JY l t=Mh (nth l (i-1)) (nth l i) t:=by
 have e1:i-1+1=i:=Za
 have h1:=h.lo (i-1) Za;have h2:=h.hi i (ZL _) hi;have:=Hc (l:=l) (t:=t) (i:=i-1) Za (fun j hj=>by have:=h.lo (j+1) Za;simp [QS];omega) (by grind [QS]);rw [this,e1]
theorem GI {p q:Pt} {t:Int} (h1:p.t<=t) (h2:t<q.t) (hp:0<=p.t) (hq:q.t<=4096) (ha:p.a<=q.a) (hpa:0<=p.a) (hqa:q.a<=8192) :
  IntKind.i64.wrap (p.a+IntKind.i64.wrap ((IntKind.i64.wrap (IntKind.i64.wrap (IntKind.i64.wrap ((t-p.t)*(q.a-p.a))+(q.t-p.t))-1)).tdiv (q.t-p.t)))=Mh p q t:=by
 have hm:=EV h1 h2 hp hq ha hpa hqa;unfold Mh;generalize hM:(t-p.t)*(q.a-p.a)=m at hm
 have hd:0<=(m+(q.t-p.t)-1) / (q.t-p.t)/\(m+(q.t-p.t)-1) / (q.t-p.t)<=m+(q.t-p.t)-1:=by
  refine ⟨Int.ediv_nonneg Za Za,Int.ediv_le_self _ Za⟩
 rw [IntWalk.i64_in m Za,IntWalk.i64_in (m+(q.t-p.t)) Za,IntWalk.i64_in (m+(q.t-p.t)-1) Za,Int.tdiv_eq_ediv_of_nonneg Za,IntWalk.i64_in ((m+(q.t-p.t)-1) / (q.t-p.t)) Za,IntWalk.i64_in _ Za]
 congr 2
 omega
theorem NK (l:List Pt) (c:Bool) (t:Int) (hl:WZ l) (ht:0<=t/\t<=1073741824):PC 323 [.p (.list c (l.map Fe)),.p (.int .i64 t)] (.int .i64 (JY l t)):=by
 obtain ⟨i,hi⟩:=nC hl t;have hl':=hl;obtain ⟨⟨hl1,hl2⟩,hpt⟩:=hl';refine Zc Tryz.func323 rfl ZaQ ?_;simp (disch:=omega) only [Tryz.f323,go_sem,seval];refine X0 (Zgk l c t i hl ht hi) (Yv ?_);obtain ⟨i1,i2,i3⟩:=id hi;refine cD ?_ ?_<;>intro h<;>simp (disch:=omega) only [Sh.out h,go_sem,seval,↓reduceIte]
 ·grind [jS]
 ·refine cD ?_ ?_<;>intro h0<;>simp (disch:=omega) only [Sh.out h0,go_sem,seval]
  ·have:i=0:=Za
   subst this;obtain ⟨p1,p2⟩:=hpt 0 Za;rw [jU hl hi (fun g=>h ⟨Za,g⟩)];refine Xd ?_;simp (disch:=omega) only [go_sem,seval,↓reduceIte]
  ·refine cD ?_ ?_<;>intro h1<;>simp (disch:=omega) only [Sh.out h1,go_sem,seval]
   ·have:i=l.length:=Za
    subst this;obtain ⟨p1,p2⟩:=hpt (l.length-1) Za;rw [jT hi Za]
    have e1:((l.length:Int)-1).toNat=l.length-1:=Za
    refine Xd ?_;simp (disch:=omega) only [go_sem,seval,↓reduceIte]
   ·have g1:i<l.length:=Za
    rw [TU hi Za g1 (fun g=>h ⟨g1,g⟩)];have g2:=BI hl g1 (i-1) Za;obtain ⟨p1,p2⟩:=hpt i g1;obtain ⟨p3,p4⟩:=hpt (i-1) Za
    have e1:((i:Int)-1).toNat=i-1:=Za
    have q1:=i2 (i-1) Za;have q2:=i3 i (ZL _) g1;have q3: ¬(nth l i).t=t:=fun g=>h ⟨g1,g⟩;have q4:=p2 Za;refine Xc [9,10,11] 12 mixed Zd Zd Zd Zb ?_;simp (disch:=omega) only [e1,go_sem,seval];refine R2 9 10 _ _ _ _ Zd (by refine Yv ?_;exact ⟨rfl,rfl⟩) (by refine Yv ?_;exact ⟨rfl,rfl⟩) ?_ ?_
    ·refine ZU 10 _ _ Zd (by refine Yv ?_;exact ⟨rfl,rfl⟩) (ZU 11 _ _ Zd (by refine Yv ?_;exact ⟨rfl,rfl⟩) (Yg ?_));refine Yv ?_;refine Xd (Yv ?_);exact Qm (fun z=>V.p (PV.int IntKind.i64 z)) (GI Za Za Za Za Za Za Za)
    ·refine ZU 9 _ _ Zd (by refine Yv ?_;exact ⟨rfl,rfl⟩) (ZU 11 _ _ Zd (by refine Yv ?_;exact ⟨rfl,rfl⟩) (Yg ?_));refine Yv ?_;refine Xd (Yv ?_);exact Qm (fun z=>V.p (PV.int IntKind.i64 z)) (GI Za Za Za Za Za Za Za)
theorem Sp (l:List Pt) (c:Bool) (t:Int) (hl:WZ l) (ht:0<=t/\t<=1073741824):PC 317 [.p (.list c (l.map Fe)),.p (.int .i64 t)] (.int .i64 (JY l t)):=by
 refine Zc Tryz.func317 rfl ZaK ?_;simp (disch:=omega) only [Tryz.f317,go_sem,seval];refine (MF t 0 1073741824).use (Yv ?_);simp (disch:=omega) only [ht,go_sem,seval];refine (nM l c hl).use (Yv ?_);refine (NK l c t hl ht).use ?_;simp (disch:=omega) only [go_sem,seval]
theorem LU (n:Net) (p:Int) (hn:n.places.length<=1048576):PC 301 [.p (Ai n),.p (.int .i64 p)] (.bool (Kl n p)):=by
 refine Zc Tryz.func301 rfl Zau ?_;simp (disch:=omega) only [Tryz.f301,go_sem,seval];refine gT ?_ ?_<;>intro h<;>simp (disch:=omega) only [Sh.out h,go_sem,seval,↓reduceIte]
 ·simp [Kl,h]
 ·simp [Kl,h]
theorem oS (a:Arc):PC 316 [.p (VW a)] (.agg [.int .i64 a.src,.int .i64 a.dst,.int .i64 a.prof]):=by
 refine Zc Tryz.func316 rfl ZaJ ?_;simp (disch:=omega) only [Tryz.f316,go_sem,seval,↓reduceIte]
theorem mV (a:Arc) (t:Int) (ha:jQ a) (ht:0<=t/\t<=1073741824):PC 303 [.p (VW a),.p (.int .i64 t)] (.int .i64 (ID a t)):=by
 obtain ⟨h1,h2,h3⟩:=ha;have hr:=DR h1 ht;have hs:=K9 (t:=t) (fun p hp=>(h3 p hp).2.2);refine Zc Tryz.func303 rfl Zaw ?_;simp (disch:=omega) only [Tryz.f303,go_sem,seval];refine (Sp a.travel a.travel_c t h1 ht).use (Yv ?_);refine Zj [1,13,14] (fun k:Nat=> [(5,.p (.int .i64 (JY a.travel t+JL a.slow t k))),(15,.p (.int .i64 k))]) (fun _=> [WJ a]) (fun k=>k<=a.slow.length) (fun k=>a.slow.length-k) 0 Zb (Weak.mk ?_) ?_
 ·simp (disch:=omega) only [WJ,JL,V2,go_sem,seval];simp
 ·intro k hk;have hsk:=hs k hk;simp (disch:=omega) only [WJ,go_sem,seval];refine cD ?_ ?_<;>intro h<;>simp (disch:=omega) only [Sh.out h,go_sem,seval,↓reduceIte]
  ·have hk2:k<a.slow.length:=Za
   have hp:=h3 _ (ZV hk2);have hsn:=AP (t:=t) hk2;refine ZH ?_ ?_<;>intro h4
   ·rw [if_pos h4] at hsn;exact ⟨k+1,Za,Za,Weak.mk (by simp (disch:=omega) only [hsn,Int.add_assoc,go_sem,seval])⟩
   ·rw [if_neg h4] at hsn;exact ⟨k+1,Za,Za,Weak.mk (by simp (disch:=omega) only [hsn,go_sem,seval])⟩
  grind [ID]
theorem mY (n:Net) (pr f t:Int) (hn:n.arcs.length<=1048576):PT 302 [.p (Ai n),.p (.int .i64 pr),.p (.int .i64 f),.p (.int .i64 t)] [.p (VW (Wo n pr f t).1),.p (.bool (Wo n pr f t).2)]:=by
 refine Ze [] Tryz.func302 rfl Zav ?_;simp (disch:=omega) only [Tryz.f302,go_sem,seval];refine Zj [8,10,18,19] (fun k:Nat=> [(20,.p (.int .i64 k))]) (fun _=>ZW n++ [WJ VB,.cells [.p (.int .i64 f),.p (.int .i64 t),.p (.int .i64 pr)]]) (fun k=>k<=n.arcs.length/\ ∀j,j<k->W7 pr f t (nth n.arcs j)=false) (fun k=>n.arcs.length-k) 0 Zb (Weak.mk ?_) ?_
 ·simp (disch:=omega) only [ZW,WJ,VB,Zk,ZP,ZR,go_sem,seval]
 ·rintro k ⟨hk,hno⟩;simp (disch:=omega) only [ZW,WJ,VB,Zk,ZP,ZR,go_sem,seval];refine cD ?_ ?_<;>intro h<;>simp (disch:=omega) only [Sh.out h,go_sem,seval,↓reduceIte]
  ·have hk2:k<n.arcs.length:=Za
   have nx:W7 pr f t (nth n.arcs k)=false-> ∀j,j<k+1->W7 pr f t (nth n.arcs j)=false:=fun h=>Zn.2 ⟨hno,h⟩;refine Xd (Yv ?_);refine Zo (oS (nth n.arcs k)) (Yv ?_);refine ZH ?_ ?_<;>intro h1
   ·have e:=La hk2 hno (by simp [W7,h1]);obtain ⟨rfl,rfl,rfl⟩:=h1;rw [e];exact we
   ·have e2:W7 pr f t (nth n.arcs k)=false:=by
     simp_all [W7]
    exact ⟨k+1,⟨Za,nx e2⟩,Za,wk⟩
  ·have hkn:k=n.arcs.length:=Za
   subst hkn;rw [Lb hno];exact we (by simp (disch:=omega) only [VB,Zk,go_sem,seval])
theorem rR (n:Net) (pr f t τ:Int) (hn:netR n) (hτ:0<=τ/\τ<=1073741824):PT 278 [.p (Ai n),.p (.int .i64 pr),.p (.int .i64 f),.p (.int .i64 t),.p (.int .i64 τ)] [.p (.int .i64 (WX n pr f t τ).1),.p (.int .i64 (WX n pr f t τ).2.1),.p (.int .i64 (WX n pr f t τ).2.2)]:=by
 refine Ze [] Tryz.func278 rfl zY ?_;simp (disch:=omega) only [Tryz.f278,go_sem,seval];refine (LU n f hn.1).use (Yv ?_);refine gF ?_ ?_<;>intro h1<;>simp (disch:=omega) only [Sh.out h1,go_sem,seval,↓reduceIte]
 ·have e:WX n pr f t τ=(0,0,11):=by grind [WX]
  rw [e];exact we
 ·simp only [Xt] at h1;refine (LU n t hn.1).use (Yv ?_);refine cD ?_ ?_<;>intro h2<;>simp (disch:=omega) only [Sh.out h2,go_sem,seval]
  ·have e:WX n pr f t τ=(0,0,11):=by grind [WX]
   rw [e];exact we
  ·simp only [Xt] at h2;refine cD ?_ ?_<;>intro h3<;>simp (disch:=omega) only [Sh.out h3,go_sem,seval,↓reduceIte]
   ·have e:WX n pr f t τ=(τ,0,0):=by grind [WX]
    rw [e];exact we
   ·have cf:=mY n pr f t hn.2.1;have hm:= @Cf n pr f t
    have e0:WX n pr f t τ=if (Wo n pr f t).2=true then (ID (Wo n pr f t).1 τ,(Wo n pr f t).1.miles,0) else (0,0,12):=by grind [WX]
    rw [e0];generalize Wo n pr f t=A at cf hm ⊢;obtain ⟨a,b⟩:=A;simp only at cf hm ⊢;refine X0 cf (Yv ?_);refine cD ?_ ?_<;>intro h4<;>simp (disch:=omega) only [Sh.out h4,go_sem,seval]
    ·have hb:b=false:=by grind
     subst hb;exact we (by simp (disch:=omega) only [go_sem,seval,↓reduceIte])
    ·have hb:b=true:=by grind
     subst hb;refine Xd (Yv ?_);refine Zo (mV a τ (hn.2.2 a (hm rfl)) hτ) (Yv ?_);exact we
def DV (s:Stp) (a:Int):Int×Int:=if max a s.opn>s.cls then (0,14) else (max a s.opn,0)
theorem OB (s:Stp) (a:Int):PT 304 [.p (D4 s),.p (.int .i64 a)] [.p (.int .i64 (DV s a).1),.p (.int .i64 (DV s a).2)]:=by
 refine Ze [] Tryz.func304 rfl Zax ?_;simp (disch:=omega) only [Tryz.f304,go_sem,seval];refine cD ?_ ?_<;>intro h<;>simp (disch:=omega) only [Sh.out h,go_sem,seval]
 ·have e:DV s a=(0,14):=by simp_all [DV]
  rw [e];exact we
 ·have e:DV s a=(max a s.opn,0):=by simp_all [DV]
  rw [e];exact we
theorem eX (l:List Ord) (c:Bool) (p:Int) (hl:l.length<=1048576):PC 236 [.p (.list c (l.map eOrd)),.p (.int .i64 p)] (.bool (decide (0<=p)&&decide (p<(l.length:Int)))):=by
 refine Zc Tryz.func236 rfl cQ ?_;simp (disch:=omega) only [Tryz.f236,go_sem,seval];refine gT ?_ ?_<;>intro h<;>simp (disch:=omega) only [Sh.out h,go_sem,seval,↓reduceIte]
 all_goals simp [h]
theorem Pu (x:Inst) (v:Vis) (ho:x.orders.length<=1048576) (hv:Ls x v=true) (hp:0<=(XC x v).place):PT 241 [.p (.list x.orders_c (x.orders.map eOrd)),.p (Z2 v)] [.p (D4 (XC x v)),.p (.int .i64 0)]:=by
 refine Ze [] Tryz.func241 rfl yU ?_;simp (disch:=omega) only [Tryz.f241,go_sem,seval];have hv':=hv;rw [Ls] at hv';have ct:=eX x.orders x.orders_c v.order ho;rw [hv'] at ct;refine ct.use ?_;simp only [ZG,Zl] at hv';obtain ⟨h1,h2⟩:=hv'
 have hi:v.order.toNat<x.orders.length:=Za
 refine Yv ?_;refine cD ?_ ?_<;>intro hd<;>simp (disch:=omega) only [Sh.out hd,go_sem,seval,↓reduceIte]
 ·have e:XC x v=(nth x.orders v.order.toNat).drp:=by simp [XC,hd]
  rw [e] at hp ⊢
  have e3: ¬(nth x.orders v.order.toNat).drp.place<0:=Za
  simp (disch:=omega) only [e3,go_sem,seval];exact we
 ·have e:XC x v=(nth x.orders v.order.toNat).pick:=by simp [XC,hd]
  rw [e] at hp ⊢
  have e3: ¬(nth x.orders v.order.toNat).pick.place<0:=Za
  simp (disch:=omega) only [e3,go_sem,seval];exact we
theorem mX (l:List Typ) (c:Bool) (ht:l.length<=1048576):PC 291 [.p (.list c (l.map Vr))] (.int .i64 (dimsOf l)):=by
 refine Zc Tryz.func291 rfl Zak ?_;simp (disch:=omega) only [Tryz.f291,go_sem,seval];refine cD ?_ ?_<;>intro h1<;>simp (disch:=omega) only [Sh.out h1,go_sem,seval,↓reduceIte]
 ·grind [dimsOf]
 simp_all [dimsOf]
theorem mZ (a b:List Int) (c d:Bool) (ha:a.length<=1048576) (hb:b.length<=1048576):PC 268 [.p (.list c (a.map eI)),.p (.list d (b.map eI))] (.bool (UX a b)):=by
 refine Zc Tryz.func268 rfl zP ?_;simp (disch:=omega) only [Tryz.f268,go_sem,seval];refine cD ?_ ?_<;>intro h1<;>simp (disch:=omega) only [Sh.out h1,go_sem,seval]
 ·grind [UX]
 ·have h1':a.length=b.length:=Za
  refine Zj [1,12,13] (fun k:Nat=> [(14,.p (.int .i64 k))]) (fun _=> []) (fun k=>k<=a.length/\ ∀j,j<k->nth a j<=nth b j) (fun k=>a.length-k) 0 Zb (Weak.mk ?_) ?_
  ·simp (disch:=omega) only [go_sem,seval]
  ·rintro k ⟨hk,hno⟩;refine Yv ?_;refine cD ?_ ?_<;>intro h2<;>simp (disch:=omega) only [Sh.out h2,go_sem,seval,↓reduceIte]
   ·have hk2:k<a.length:=Za
    refine ZH ?_ ?_<;>intro h3
    ·grind [UX]
    ·exact ⟨k+1,⟨Za,Zn.2 ⟨hno,Za⟩⟩,Za,wk⟩
   ·have hkl:k=a.length:=Za
    simp_all [UX]
theorem mU (t:Typ) (s:Int) (h1:t.skills<9223372036854775808) (h2:s<9223372036854775808):PC 264 [.p (Vr t),.p (.int .i64 s)] (.bool (Wz t s)):=by
 refine Zc Tryz.func264 rfl zL ?_;simp (disch:=omega) only [Tryz.f264,go_sem,seval];refine gT ?_ ?_<;>intro c1<;>simp (disch:=omega) only [Sh.out c1,go_sem,seval,↓reduceIte]
 ·refine gT ?_ ?_<;>intro c2<;>simp (disch:=omega) only [Sh.out c2,go_sem,seval,↓reduceIte]
  ·obtain ⟨M,hM⟩: ∃M:Nat,t.skills=(M:Int):=⟨t.skills.toNat,Za⟩;obtain ⟨S,rfl⟩: ∃S:Nat,s=(S:Int):=⟨s.toNat,Za⟩;have hb:=CP (S:=S) (M:=M) Za
   have e:Wz t (S:Int)=(List.range 63).all fun i=> !S.testBit i||M.testBit i:=by
    simp_all [Wz]
   have hd:decide (IntKind.i64.wrap ((BitVec.ofInt 64 (S:Int)&&& ~~~BitVec.ofInt 64 (M:Int)).toNat:Int)=0)=((List.range 63).all fun i=> !S.testBit i||M.testBit i):=by
    grind
   rw [e,hM];exact Qm (fun b=>V.p (PV.bool b)) hd
  grind [Wz]
 grind [Wz]
theorem Zbp (a b:Int) (h: -1073741824<=a/\a<=1073741824/\ -1073741824<=b/\b<=1073741824):PC 310 [.p (.int .i64 a),.p (.int .i64 b)] (.int .i64 (a+b)):=by
 refine Zc Tryz.func310 rfl ZaD ?_;simp (disch:=omega) only [Tryz.f310,go_sem,seval]
theorem mH (a b:Int) (h: -1073741824<=a/\a<=1073741824/\ -1073741824<=b/\b<=1073741824):PC 311 [.p (.int .i64 a),.p (.int .i64 b)] (.int .i64 (a-b)):=by
 refine Zc Tryz.func311 rfl ZaE ?_;simp (disch:=omega) only [Tryz.f311,go_sem,seval]
def Tm (f:Nat->Int) (n k:Nat):List Int:=(List.range n).map fun j=>if j<k then f j else 0
theorem mJ {f:Nat->Int} {n k:Nat} :(Tm f n k).length=n:=by simp [Tm]
theorem dL {f:Nat->Int} {n:Nat} :Tm f n 0=List.replicate n 0:=by
 apply Qp (by simp [Tm]);grind [Tm]
theorem dK {f:Nat->Int} {n:Nat} :Tm f n n=(List.range n).map f:=by
 simp_all [Tm]
theorem mK {f:Nat->Int} {n k:Nat} (h:k<n):(Tm f n k).set k (f k)=Tm f n (k+1):=by
 apply Qp (by simp [Tm]);grind [Tm]
theorem FW (a b:List Int) (c d:Bool) (g:FuncId) (f:Int->Int->Int) (hl:a.length=b.length) (ha:a.length<=1048576)
  (hf: ∀j,j<a.length->ACalls Tryz.prog g [.p (.int .i64 (nth a j)),.p (.int .i64 (nth b j))] [] fun x H'=>x= .p (.int .i64 (f (nth a j) (nth b j)))/\H'= []) :
  PT 309 [.p (.list c (a.map eI)),.p (.list d (b.map eI)),.fn (.func g) [] []] [.p (.list false (((List.range a.length).map fun j=>f (nth a j) (nth b j)).map eI)),.p (.int .i64 0)]:=by
 refine Ze [9] Tryz.func309 rfl ZaC ?_;simp (disch:=omega) only [Tryz.f309,go_sem,seval];refine cD ?_ ?_<;>intro h0<;>simp (disch:=omega) only [Sh.out h0,go_sem,seval]
 ·omega
 ·have hz:=dL (f:=fun j=>f (nth a j) (nth b j)) (n:=a.length);have hml:=fun k=>mJ (f:=fun j=>f (nth a j) (nth b j)) (n:=a.length) (k:=k);refine ZS [9] [0,1,2,8,19] (fun k:Nat=> [(20,.p (.int .i64 k))]) (fun k=> [.elems 1 ((Tm (fun j=>f (nth a j) (nth b j)) a.length k).map eI)]) (fun k=>k<=a.length) (fun k=>a.length-k) 0 Zb (Weak.mk ?_) ?_
  ·simp (disch:=omega) only [hz,go_sem,seval];rw [Bp];rfl
  ·intro k hk;refine Yv ?_;refine cD ?_ ?_<;>intro h1<;>simp (disch:=omega) only [Sh.out h1,go_sem,seval,↓reduceIte]
   ·have hk2:k<a.length:=Za
    have hs:=mK (f:=fun j=>f (nth a j) (nth b j)) (n:=a.length) hk2;have hk3:=hml k;refine Z1 12 mixed Zd Zd ?_;refine Yv ?_;refine Zo (hf k hk2) ?_;refine Yv ?_;simp (disch:=first | omega | (simp only [Zz,ZQ,Zm,Zu,Zy,ZK]<;>omega)) only [go_sem,seval,↓reduceIte];refine ⟨k+1,Za,Za,Weak.mk ?_⟩;simp (disch:=omega) only [<- hs,go_sem,seval];rw [V4];rfl
   ·have hkl:k=a.length:=Za
    subst hkl;rw [<- dK];have hk3:=hml a.length;refine Zp (Weak.fz (o:=0) (by rfl)) ?_;refine Zf [] _ _ _ _ ?_;simp (disch:=omega) only [ZN,Zk,Xj,go_sem,seval];rw [if_pos hk3];exact we
theorem eL (a b:List Int) (c d:Bool) (hl:a.length=b.length) (ha:a.length<=1048576) (h: ∀j,j<a.length-> -1073741824<=nth a j/\nth a j<=1073741824/\ -1073741824<=nth b j/\nth b j<=1073741824):PT 292 [.p (.list c (a.map eI)),.p (.list d (b.map eI))] [.p (.list false ((DK a b).map eI)),.p (.int .i64 0)]:=by
 refine Ze [] Tryz.func292 rfl Zal ?_;simp (disch:=omega) only [Tryz.f292,go_sem,seval];refine X0 (FW a b c d 310 (fun m n=>m+n) hl ha fun j hj=>Zbp _ _ (h j hj)) ?_;simp (disch:=omega) only [DK,go_sem,seval];exact we
theorem Zbm (a b:List Int) (c d:Bool) (hl:a.length=b.length) (ha:a.length<=1048576) (h: ∀j,j<a.length-> -1073741824<=nth a j/\nth a j<=1073741824/\ -1073741824<=nth b j/\nth b j<=1073741824):PT 293 [.p (.list c (a.map eI)),.p (.list d (b.map eI))] [.p (.list false ((oC a b).map eI)),.p (.int .i64 0)]:=by
 refine Ze [] Tryz.func293 rfl Zam ?_;simp (disch:=omega) only [Tryz.f293,go_sem,seval];refine X0 (FW a b c d 311 (fun m n=>m-n) hl ha fun j hj=>mH _ _ (h j hj)) ?_;simp (disch:=omega) only [oC,go_sem,seval];exact we
theorem eT (x:Inst) (r:Rte) (ht:0<=r.typ/\r.typ<(x.types.length:Int)) (hv: ∀v∈r.visits,Ls x v=true) (hl:r.visits.length<=1048576) (hxl:x.types.length<=1048576) (hol:x.orders.length<=1048576)
  (hs:(Z0 x r).skills<9223372036854775808) (ho: ∀o∈x.orders,o.skills<9223372036854775808) :
  PC 219 [.p (Zs x),.p (YJ r)] (.int .i64 (if (r.visits.any fun v=> !Wz (Z0 x r) (nth x.orders v.order.toNat).skills)=true then 18 else 0)):=by
 refine Zc Tryz.func219 rfl yB ?_;simp (disch:=omega) only [Tryz.f219,go_sem,seval];refine Zj [2,3,8,9] (fun k:Nat=> [(10,.p (.int .i64 k))]) (fun _=> [Zg x,.cells [.p (.int .i64 r.typ),.p (.int .i64 r.start),.p (.list r.rests_c (r.rests.map eB)),.p (.list r.visits_c (r.visits.map Z2))]]) (fun k=>k<=r.visits.length/\ ∀j,j<k->Wz (Z0 x r) (nth x.orders (nth r.visits j).order.toNat).skills=true) (fun k=>r.visits.length-k) 0 Zb (Weak.mk ?_) ?_
 ·simp (disch:=omega) only [Zg,go_sem,seval]
 ·rintro k ⟨hk,hno⟩;refine X6 ?_;refine cD ?_ ?_<;>intro h1<;>simp (disch:=omega) only [Sh.out h1,go_sem,seval,↓reduceIte]
  ·have hk2:k<r.visits.length:=Za
   have hin:=hv _ (ZV hk2);simp only [Ls,ZG,Zl] at hin;obtain ⟨i1,i2⟩:=hin
   have hi:(nth r.visits k).order.toNat<x.orders.length:=Za
   have ho':=ho _ (ZV hi);refine Xd (Yv ?_);refine Zo (mU (Z0 x r) (nth x.orders (nth r.visits k).order.toNat).skills Za Za) (Yv ?_);refine ZH ?_ ?_<;>intro h2
   ·have:(r.visits.any fun v=> !Wz (Z0 x r) (nth x.orders v.order.toNat).skills)=true:=by
     grind [ZV]
    grind
   ·exact ⟨k+1,⟨Za,Zn.2 ⟨hno,by grind⟩⟩,Za,wk⟩
  ·have: ¬(r.visits.any fun v=> !Wz (Z0 x r) (nth x.orders v.order.toNat).skills)=true:=by
    rw [UE];rintro ⟨v,hv,e⟩;obtain ⟨j,hj,rfl⟩:=ZD.1 hv
    grind [Zi]
   grind
def PI (x:Inst) (d:Nat) (ms:List Int) (k:Nat):List Int:=(ms.take k).foldl (fun s i=>if (nth x.orders i.toNat).pick.place<0 then DK s (nth x.orders i.toNat).load else s) (List.replicate d 0)
theorem Ms {x:Inst} {d:Nat} {ms:List Int} {k:Nat} (h:k<ms.length):PI x d ms (k+1)=if (nth x.orders (nth ms k).toNat).pick.place<0 then DK (PI x d ms k) (nth x.orders (nth ms k).toNat).load else PI x d ms k:=by
 grind [PI,ZE,Zi]
theorem PJ {x:Inst} {d:Nat} {ms:List Int} (hms: ∀i∈ms,∀j,j<d->0<=nth (nth x.orders i.toNat).load j/\nth (nth x.orders i.toNat).load j<=1000): ∀k,k<=ms.length->(PI x d ms k).length=d/\ ∀j,j<d->0<=nth (PI x d ms k) j/\nth (PI x d ms k) j<=1000*k
 | 0,_=>by
  grind [PI,Zi]
 | k+1,h=>by
  obtain ⟨h1,h2⟩:=PJ hms k Za;rw [Ms Za]
  split
  ·refine ⟨by simp [DK,h1],fun j hj=> ?_⟩;have a1:=h2 j hj;have a2:=hms _ (ZV (show k<ms.length by omega)) j hj;rw [DK,Kj Za];omega
  ·exact ⟨h1,fun j hj=>by have:=h2 j hj;omega⟩
theorem oA (x:Inst) (S:Int) (d:Nat) (hd:d<=3) (hol:x.orders.length<=1048576) (hms: ∀i∈XN S 63,0<=i/\i<(x.orders.length:Int)) (hml:(XN S 63).length<=63)
  (hld: ∀o∈x.orders,o.load.length=d/\ ∀n∈o.load,0<=n/\n<=1000) :
  PC 290 [.p (Zs x),.p (.int .i64 S),.p (.int .i64 (d:Int))] (.list false ((PI x d (XN S 63) (XN S 63).length).map eI)):=by
 have hmo: ∀i∈XN S 63,i.toNat<x.orders.length:=fun i hi=>by grind
 have hrg:=PJ (x:=x) (d:=d) (ms:=XN S 63) fun i hi j hj=>by
  grind [ZV]
 refine Zc Tryz.func290 rfl Zaj ?_;simp (disch:=omega) only [Tryz.f290,go_sem,seval];refine (Cq S).useF (Yv ?_);refine Zp ((Weak.fz (o:=1) (by rfl)).trans (Weak.fz (o:=2) (by rfl))) ?_;simp (disch:=omega) only [ZN,Zk,X2,Xj,Du,eq_self,go_sem,seval]
 have hz:List.replicate d (PV.int .i64 0)=(PI x d (XN S 63) 0).map eI:=by
  show _=(List.replicate d 0).map eI
  rw [Bp];rfl
 refine Zj [3,13,14] (fun k:Nat=> [(7,.p (.list false ((PI x d (XN S 63) k).map eI))),(15,.p (.int .i64 k))]) (fun _=> [Zg x,.dead,.dead]) (fun k=>k<=(XN S 63).length) (fun k=>(XN S 63).length-k) 0 Zb (Weak.mk ?_) ?_
 ·simp (disch:=omega) only [Zg,hz,go_sem,seval]
 ·intro k hk;have hk1:=hrg k hk;have hsn:=fun h=>Ms (x:=x) (d:=d) (ms:=XN S 63) (k:=k) h;refine X6 ?_;refine cD ?_ ?_<;>intro h1<;>simp (disch:=omega) only [Sh.out h1,go_sem,seval,↓reduceIte]
  ·have hk2:k<(XN S 63).length:=Za
   have hm:=hms _ (ZV hk2);have hi:=hmo _ (ZV hk2);have hlo:=hld _ (ZV hi);have hsn:=hsn hk2;refine Yv ?_;refine ZH ?_ ?_<;>intro h2
   ·rw [if_pos h2] at hsn;refine X0 (eL (PI x d (XN S 63) k) (nth x.orders (nth (XN S 63) k).toNat).load false (nth x.orders (nth (XN S 63) k).toNat).load_c Za Za fun j hj=> ?_) ?_
    ·have b1:=hk1.2 j Za;have b2:=hlo.2 _ (ZV (show j<(nth x.orders (nth (XN S 63) k).toNat).load.length by omega));omega
    ·refine Yv ?_;exact ⟨k+1,Za,Za,Weak.mk (by simp (disch:=omega) only [hsn,go_sem,seval])⟩
   ·rw [if_neg h2] at hsn;exact ⟨k+1,Za,Za,Weak.mk (by simp (disch:=omega) only [hsn,go_sem,seval])⟩
  grind
theorem Nq {p:Nat->Bool} {n:Nat} (h: ∀i,n<=i->p i=false): ∀k,n<=k->(List.range k).filter p=(List.range n).filter p:=by
 intro k hk
 induction k with
 | zero=>grind
 | succ k ih =>
  grind [Wt]
theorem ZhF {x:Inst} {l:List Vis} (hi:Inr x l) (hn:x.orders.length<=10):XN ((XZ l:Nat):Int) 63=((List.range x.orders.length).filter fun (i:Nat)=>hasO l (i:Int)).map fun (i:Nat)=>(i:Int):=by
 have key: ∀i:Nat,i<=62->sHas ((XZ l:Nat):Int) (i:Int)=hasO l (i:Int):=fun i h=>by
  rw [Wg _ _ h,Wu,BB,YC]
  constructor
  ·rintro ⟨v,hv,e⟩;exact ⟨v,hv,by have:=hi v hv;omega⟩
  grind
 unfold XN;rw [List.filter_congr (q:=fun (i:Nat)=>hasO l (i:Int)) (fun i hm=>key i (by grind)),Nq (n:=x.orders.length) (fun i h=> ?_) 63 Za]
 cases hh:hasO l (i:Int) with
 | false=>rfl
 | true =>
  obtain ⟨v,hv,e⟩:=YC.1 hh;have:=hi v hv;omega
theorem bV {x:Inst} {d:Nat} : ∀(L:List Nat) (g:Nat->Int),(L.map fun (i:Nat)=>(i:Int)).foldl (fun s (i:Int)=>if (nth x.orders i.toNat).pick.place<0 then DK s (nth x.orders i.toNat).load else s) ((List.range d).map g)=(List.range d).map fun j=>g j+(L.map fun i=>if (nth x.orders i).pick.place<0 then nth (nth x.orders i).load j else 0).sum
 | [],g=>Zb
 | i::L,g=>by
  rw [ZN,XF,XK]
  by_cases h:(nth x.orders i).pick.place<0
  ·have e:DK ((List.range d).map g) (nth x.orders i).load=(List.range d).map fun j=>g j+nth (nth x.orders i).load j:=by
    grind [DK,Vt,Kj]
   rw [if_pos h,e,bV L]
   grind
  ·rw [if_neg h,bV L]
   grind
theorem S0 {x:Inst} {l:List Vis} (hi:Inr x l) (hn:x.orders.length<=10):PI x (dimsOf x.types).toNat (XN ((XZ l:Nat):Int) 63) (XN ((XZ l:Nat):Int) 63).length=Wa x l 0:=by
 rw [PI,UB,ZhF hi hn];have:=bV (x:=x) (d:=(dimsOf x.types).toNat) ((List.range x.orders.length).filter fun (i:Nat)=>hasO l (i:Int)) fun _=>0
 have e:(List.range (dimsOf x.types).toNat).map (fun _=>(0:Int))=List.replicate (dimsOf x.types).toNat 0:=by
  simp_all [List.map_const']
 rw [e] at this;rw [this,Wa];refine Vt fun j _=> ?_;rw [Int.zero_add,JC,Di]
 congr 1
 refine Vt fun i _=> ?_
 grind [dZ]
theorem hJ {x:Inst} {l:List Vis} {n j:Nat} {d:Nat} (hj:j<d) (hld: ∀o∈x.orders,o.load.length=d/\ ∀n∈o.load,0<=n/\n<=1000) (hn:x.orders.length<=10):0<=Di x l n j/\Di x l n j<=10000:=by
 have key:=PK (f:=fun i=>if i<x.orders.length then (if (Fx x l n i&&hasO l i)=true then nth (nth x.orders i).load j else 0) else 0) (b:=1000) Za (fun q=>by
  grind [ZV]) x.orders.length
 have e:Di x l n j=((List.range x.orders.length).map fun i=>if i<x.orders.length then (if (Fx x l n i&&hasO l i)=true then nth (nth x.orders i).load j else 0) else 0).sum:=by
  simp_all [Di,Vt]
 omega
theorem TJ {x:Inst} {l:List Vis} {n j:Nat} (hj:j<(dimsOf x.types).toNat) (hd:LdOk x):0<=nth (Wa x l n) j/\nth (Wa x l n) j<=10000:=by
 rw [Wa,Kj hj];exact hJ hj (fun o ho=>by obtain ⟨h1,h2⟩:=hd.load o ho;grind) hd.ord
def rF {α:Type} (f:α->Bool) (l:List α):Int:=match l.findIdx? f with | some i=>(i:Int) | none=> -1
theorem cA {α:Type} [Inhabited α] {f:α->Bool} {l:List α} {k:Nat} (hk:k<l.length) (h:f (nth l k)=true) (hno: ∀j,j<k->f (nth l j)=false):rF f l=(k:Int):=by
 have:l.findIdx? f=some k:=by
  grind [VY,Zi]
 simp [rF,this]
theorem cC {α:Type} [Inhabited α] {f:α->Bool} {l:List α} (hno: ∀j,j<l.length->f (nth l j)=false):rF f l= -1:=by
 have:l.findIdx? f=none:=by
  rw [List.findIdx?_eq_none_iff];intro x hx;obtain ⟨j,hj,rfl⟩:=ZD.1 hx
  grind [Zi]
 simp [rF,this]
theorem cB {α:Type} {f:α->Bool} {l:List α} :decide (0<=rF f l)=l.any f:=by
 grind [rF]
theorem RW (l:List (List Int)) (c:Bool) (g:FuncId) (caps:List V) (H:List AM.Obj) (f:List Int->Bool) (hl:l.length<=1048576) (hW:MH H H.length H H) (hc:Xb H.length caps=true)
  (hg: ∀v∈l,ACalls Tryz.prog g (.p (iY v)::caps) H fun x H'=>x= .p (.bool (f v))/\H'=H) :
  ACalls Tryz.prog 294 [.p (.list c (l.map iY)),.fn (.func g) [] caps] H fun x H'=>x= .p (.int .i64 (rF f l))/\H'=H:=by
 refine X7 Tryz.func294 rfl Zan (Zf [] _ _ _ _ ?_);simp (disch:=omega) only [Tryz.f294,go_sem,seval];refine Zj [0,1,7] (fun k:Nat=> [(8,.p (.int .i64 k))]) (fun _=>H) (fun k=>k<=l.length/\ ∀j,j<k->f (nth l j)=false) (fun k=>l.length-k) 0 Zb (Weak.mk ?_) ?_
 ·simp (disch:=omega) only [hW,hc,go_sem,seval];simp
 ·rintro k ⟨hk,hno⟩;refine Yv ?_;refine cD ?_ ?_<;>intro h<;>simp (disch:=omega) only [Sh.out h,go_sem,seval,↓reduceIte]
  ·have hk2:k<l.length:=Za
   have hgk:=hg (nth l k) (Zq hk2);simp (disch:=omega) only [uV,go_sem,seval] at hgk;refine hgk.useH (Yv ?_);refine cD ?_ ?_<;>intro h2<;>simp (disch:=omega) only [Sh.out h2,go_sem,seval,↓reduceIte]
   ·grind [cA]
   ·have h3:f (nth l k)=false:=Za
    refine ⟨k+1,⟨Za,Zn.2 ⟨hno,h3⟩⟩,Za,Weak.mk ?_⟩;simp (disch:=omega) only [hW,hc,go_sem,seval];simp
  grind [cC]
theorem Ht (l:List (List Int)) (c:Bool) (g:FuncId) (caps:List V) (H:List AM.Obj) (f:List Int->Bool) (hl:l.length<=1048576) (hW:MH H H.length H H) (hc:Xb H.length caps=true)
  (hg: ∀v∈l,ACalls Tryz.prog g (.p (iY v)::caps) H fun x H'=>x= .p (.bool (f v))/\H'=H) :
  ACalls Tryz.prog 266 [.p (.list c (l.map iY)),.fn (.func g) [] caps] H fun x H'=>x= .p (.bool (l.any f))/\H'=H:=by
 refine X7 Tryz.func266 rfl zN (Zf [] _ _ _ _ ?_);simp (disch:=omega) only [Tryz.f266,go_sem,seval];refine (RW l c g caps H f hl hW hc hg).useH (Yv ?_);rw [cB]
theorem eV (x:Inst) (r:Rte) (hx:InstOk x) (hl:r.visits.length<=1048576):PC 218 [.p (Zs x),.p (YJ r)] (.int .i64 (Xm x r.visits)):=by
 have hf:=Ym hx;obtain ⟨h1,h2⟩:=Jq.1 hx.rules
 have ha:x.apart.length<=1048576:=by
  have h3:=(Jq.1 h1).1
  grind [MN]
 have hb:x.before.length<=1048576:=by
  have h3:=(Jq.1 h2).1
  grind [MN]
 exact N7 x r (by have:=hf.len;omega) hl ha hb
theorem mT {x:Inst} {l:List Vis} (hi:Inr x l) (hn:x.orders.length<=10):Qu l=(((XZ l:Nat):Int),0):=by
 rw [Qu,if_pos];rw [ZC];intro v hv;have:=hi v hv;simp [Fv];omega
theorem Zor {α:Type} (f:Nat->α) (n:Nat):(List.range n).map f++ [f n]=(List.range (n+1)).map f:=by grind [Wt]
theorem eQ (x:Inst) (r:Rte) (hx:InstOk x) (hl:r.visits.length<=1048576) (h0:Xm x r.visits=0) :
  PT 265 [.p (Zs x),.p (YJ r)] [.p (.list false ((U4 x r.visits).map iY)),.p (.int .i64 0)]:=by
 have hd:=UZ hx;have hsq:=U9 h0;have hol:=hd.ord;have hso:=Mj r hl;rw [mT hsq.inr hol] at hso
 have hD:dimsOf x.types=((dimsOf x.types).toNat:Int):=by have:=hd.dim;omega
 have cd:=mX x.types x.types_c hd.typ;rw [hD] at cd;have hst:=S0 hsq.inr hol
 have hmem: ∀i∈XN ((XZ r.visits:Nat):Int) 63,0<=i/\i<(x.orders.length:Int):=fun i hi=>by
  rw [ZhF hsq.inr hol] at hi
  grind
 have cs:=oA x ((XZ r.visits:Nat):Int) (dimsOf x.types).toNat (by have:=hd.dim;omega) Za hmem (Bu _ _) (fun o ho=>by have:=hd.load o ho;grind);rw [hst] at cs;refine Ze [20] Tryz.func265 rfl zM ?_;simp (disch:=omega) only [Tryz.f265,go_sem,seval];refine (eV x r hx hl).use (Yv ?_);simp (disch:=omega) only [h0,go_sem,seval];refine X0 hso (Yv ?_);refine Xd (Yv ?_);refine Zo (cd) (Yv ?_);refine Zo (cs) (Yv ?_);refine ZS [20] [2,37,38] (fun q:Nat×List (List Int)=> [(9,.p (.list false ((Wa x r.visits q.1).map eI))),(10,.sl 2 0 q.2.length q.2.length),(39,.p (.int .i64 q.1))]) (fun q=> [Zg x,Z5 r,.elems 1 (q.2.map iY)]) (fun q=>q.1<=r.visits.length/\q.2=(List.range (q.1+1)).map (Wa x r.visits)) (fun q=>r.visits.length-q.1) (0,[Wa x r.visits 0]) Zb (Weak.mk ?_) ?_
 ·simp (disch:=omega) only [Zg,Z5,Zk,ZN,ZQ,Zz,go_sem,seval]
 ·rintro ⟨k,o⟩ ⟨hk,ho⟩;simp only at hk ho
  have hol2:o.length=k+1:=by rw [ho];simp
  refine C2 ?_;refine cD ?_ ?_<;>intro h1<;>simp (disch:=omega) only [Sh.out h1,go_sem,seval,↓reduceIte]
  ·have hk2:k<r.visits.length:=Za
   obtain ⟨v1,v2⟩:=hsq.inr _ (Zq hk2)
   have hi:(nth r.visits k).order.toNat<x.orders.length:=Za
   obtain ⟨l1,l2⟩:=hd.load _ (ZV hi);have hsu:=P7 hsq hk2;have hal:=DL (x:=x) (l:=r.visits) (n:=k);have hdm:=hd.dim
   have hrg: ∀j,j<(Wa x r.visits k).length-> -1073741824<=nth (Wa x r.visits k) j/\nth (Wa x r.visits k) j<=1073741824/\ -1073741824<=nth (nth x.orders (nth r.visits k).order.toNat).load j/\nth (nth x.orders (nth r.visits k).order.toNat).load j<=1073741824:=fun j hj=>by
    have b1:=TJ (x:=x) (l:=r.visits) (n:=k) (j:=j) Za hd
    grind [ZV]
   refine cD ?_ ?_<;>intro h2<;>simp (disch:=omega) only [Sh.out h2,go_sem,seval,↓reduceIte]
   ·rw [if_pos h2] at hsu;refine X0 (Zbm (Wa x r.visits k) (nth x.orders (nth r.visits k).order.toNat).load false (nth x.orders (nth r.visits k).order.toNat).load_c Za Za hrg) (Yv ?_);exact ⟨(k+1,o++ [Wa x r.visits (k+1)]),⟨Za,by grind⟩,Za,Weak.mk (by simp (disch:=omega) only [hsu,Zm,Zz,ZQ,Xi,ZN,Zk,go_sem,seval])⟩
   ·rw [if_neg (by rw [h2];simp)] at hsu;refine X0 (eL (Wa x r.visits k) (nth x.orders (nth r.visits k).order.toNat).load false (nth x.orders (nth r.visits k).order.toNat).load_c Za Za hrg) (Yv ?_);exact ⟨(k+1,o++ [Wa x r.visits (k+1)]),⟨Za,by grind⟩,Za,Weak.mk (by simp (disch:=omega) only [hsu,Zm,Zz,ZQ,Xi,ZN,Zk,go_sem,seval])⟩
  ·have hkl:k=r.visits.length:=Za
   subst hkl;refine Zp (Weak.fz (o:=2) (by rfl)) (Zf [] _ _ _ _ (Kw ?_));rw [U4,<- ho];exact we
theorem lT (x:Inst) (r:Rte) (a:List Int) (htl:x.types.length<=1048576) (hty:0<=r.typ/\r.typ<(x.types.length:Int)) (ha:a.length<=1048576) (hc:(Z0 x r).cap.length<=1048576) :
  ACalls Tryz.prog 267 [.p (iY a),.ptr 0 0,.ptr 1 0] [Zg x,Z5 r] fun y H'=>y= .p (.bool (!UX a (Z0 x r).cap))/\H'= [Zg x,Z5 r]:=by
 have hti:r.typ.toNat<x.types.length:=Za
 refine Ze [] Tryz.func267 rfl zO ?_;simp (disch:=omega) only [Tryz.f267,Zg,Z5,go_sem,seval];refine (mZ a (Z0 x r).cap false (Z0 x r).cap_c ha hc).use (Yv ?_);exact we
theorem eM (x:Inst) (r:Rte) (hx:InstOk x) (hl:r.visits.length<=1048576) (hty:0<=r.typ/\r.typ<(x.types.length:Int)) (h0:Xm x r.visits=0) :
  PC 220 [.p (Zs x),.p (YJ r)] (.int .i64 (if U3 x (Z0 x r).cap r.visits=true then 0 else 17)):=by
 have hd:=UZ hx;have htl:=hd.typ
 have hti:r.typ.toNat<x.types.length:=Za
 have hcp:(Z0 x r).cap.length<=1048576:=by
  have hcap:=hx.types.2 _ hti;unfold Au at hcap;obtain ⟨⟨⟨⟨⟨⟨⟨⟨_,_⟩,_⟩,_⟩,hcap⟩,_⟩,_⟩,_⟩,_⟩:=hcap;simp only [Us,ZG,Zl,rng] at hcap;unfold Z0;omega
 have hll:(U4 x r.visits).length=r.visits.length+1:=by simp [U4]
 have hvl:=(U9 h0).len hd.ord
 have hall:(U4 x r.visits).any (fun a=> !UX a (Z0 x r).cap)= !U3 x (Z0 x r).cap r.visits:=by
  grind [U3,U4]
 have e1: ¬r.typ<0:=Za
 have e2: ¬(x.types.length:Int)<=r.typ:=Za
 refine Zc Tryz.func220 rfl yC ?_;simp (disch:=omega) only [Tryz.f220,e1,e2,go_sem,seval];refine X0 (eQ x r hx hl h0) (Yv ?_);refine (Ht (U4 x r.visits) false 267 [.ptr 0 0,.ptr 1 0] [Zg x,Z5 r] (fun a=> !UX a (Z0 x r).cap) Za (by simp (disch:=omega) only [Zg,Z5,go_sem,seval]) (by rfl) (fun a ha=>lT x r a htl hty ?_ hcp)).useH ?_
 ·obtain ⟨j,_,rfl⟩:=Xz.1 ha;rw [DL];have:=hd.dim;omega
 ·refine C2 ?_;rw [hall];refine cD ?_ ?_<;>intro h1<;>simp (disch:=omega) only [Sh.out h1,go_sem,seval]
  ·grind
  grind
theorem Cp {β:Type} [Inhabited β] {a b:List β} (hl:a.length=b.length) (h: ∀j,j<a.length->nth a j=nth b j):a=b:=by
 grind [Qp,Zi]
def BR (a b:Rte):Bool:=decide (a.typ=b.typ)&&(decide (a.start=b.start)&&(decide (a.rests=b.rests)&&decide (a.visits=b.visits)))
def GG (p q:Pln):Bool:=(decide (p.routes.length=q.routes.length)&&(List.range p.routes.length).all fun k=>BR (nth p.routes k) (nth q.routes k))&&decide (p.unserved=q.unserved)
theorem CE {a b:Rte} :BR a b=true↔a.typ=b.typ/\a.start=b.start/\a.rests=b.rests/\a.visits=b.visits:=by
 simp [BR]
theorem FE (a b:Rte) (ha:FA a) (hb:FA b):PC 41 [.p (YJ a),.p (YJ b)] (.bool (BR a b)):=by
 obtain ⟨a1,a2⟩:=ha;obtain ⟨b1,b2⟩:=hb
 have no:(a.typ=b.typ/\a.start=b.start/\a.rests=b.rests/\a.visits=b.visits->False)->BR a b=false:=fun h=>by
  grind [CE]
 refine Zc Tryz.func41 rfl Zg2 ?_;simp (disch:=omega) only [Tryz.f41,go_sem,seval];refine gF ?_ ?_<;>intro h1<;>simp (disch:=omega) only [Sh.out h1,go_sem,seval,↓reduceIte]
 ·grind
 ·refine gF ?_ ?_<;>intro h2<;>simp (disch:=omega) only [Sh.out h2,go_sem,seval,↓reduceIte]
  ·grind
  ·refine gF ?_ ?_<;>intro h3<;>simp (disch:=omega) only [Sh.out h3,go_sem,seval,↓reduceIte]
   ·grind
   ·refine cD ?_ ?_<;>intro h4<;>simp (disch:=omega) only [Sh.out h4,go_sem,seval]
    ·grind
    ·have l1:a.rests.length=b.rests.length:=Za
     have l2:a.visits.length=b.visits.length:=Za
     refine Zj [2,3] (fun k:Nat=> [(5,.p (.int .i64 k))]) (fun _=> [Z5 a,Z5 b]) (fun k=>k<=a.rests.length/\ ∀j,j<k->nth a.rests j=nth b.rests j) (fun k=>a.rests.length-k) 0 Zb (Weak.mk ?_) ?_
     ·simp (disch:=omega) only [Z5,go_sem,seval]
     ·rintro k ⟨hk,hno⟩;simp (disch:=omega) only [Z5,go_sem,seval];refine cD ?_ ?_<;>intro h5<;>simp (disch:=omega) only [Sh.out h5,go_sem,seval,↓reduceIte]
      ·have hk2:k<a.rests.length:=Za
       refine Xd (Yv ?_);refine ZH ?_ ?_<;>intro h6
       ·grind
       ·exact ⟨k+1,⟨Za,Zn.2 ⟨hno,by grind⟩⟩,Za,wk⟩
      ·have e1:a.rests=b.rests:=Cp l1 fun j hj=>hno j Za;refine Zj [2,3] (fun k:Nat=> [(6,.p (.int .i64 k))]) (fun _=> [Z5 a,Z5 b]) (fun k=>k<=a.visits.length/\ ∀j,j<k->nth a.visits j=nth b.visits j) (fun k=>a.visits.length-k) 0 Zb (Weak.mk ?_) ?_
       ·simp (disch:=omega) only [Z5,go_sem,seval]
       ·rintro k ⟨hk,hno2⟩;simp (disch:=omega) only [Z5,go_sem,seval];refine cD ?_ ?_<;>intro h7<;>simp (disch:=omega) only [Sh.out h7,go_sem,seval,↓reduceIte]
        ·have hk2:k<a.visits.length:=Za
         refine Xd (Yv ?_);refine ZH ?_ ?_<;>intro h8
         ·grind
         ·exact ⟨k+1,⟨Za,Zn.2 ⟨hno2,CK.2 (by grind)⟩⟩,Za,wk⟩
        grind [CE,Cp]
theorem BQ {p q:Pln} (h:(p.routes.length=q.routes.length/\(∀k,k<p.routes.length->BR (nth p.routes k) (nth q.routes k)=true)/\p.unserved=q.unserved)->False):GG p q=false:=by
 simp_all [GG]
theorem GH {p q:Pln} (h1:p.routes.length=q.routes.length) (h2: ∀k,k<p.routes.length->BR (nth p.routes k) (nth q.routes k)=true) (h3:p.unserved=q.unserved):GG p q=true:=by
 simp_all [GG]
theorem Mv {P Q:Prop} (h:Q) (e:Q->P:=by intro h;simp (disch:=omega) only [Uy,go_sem,seval];exact h):P:=e h
theorem gI (p q:Pln) (hp:p.routes.length<=1048576/\p.unserved.length<=1048576/\ ∀r∈p.routes,FA r) (hq:q.routes.length<=1048576/\q.unserved.length<=1048576/\ ∀r∈q.routes,FA r) :
  PC 13 [.p (W2 p),.p (W2 q)] (.bool (GG p q)):=by
 have p1:=hp.1;have p2:=hp.2.1;refine Zc Tryz.func13 rfl ZgT ?_;simp (disch:=omega) only [Tryz.f13,go_sem,seval];refine gF ?_ ?_<;>intro h1<;>simp (disch:=omega) only [Sh.out h1,go_sem,seval,↓reduceIte]
 ·grind [BQ]
 ·refine cD ?_ ?_<;>intro h2<;>simp (disch:=omega) only [Sh.out h2,go_sem,seval]
  ·grind [BQ]
  ·have l1:p.routes.length=q.routes.length:=Za
   have l2:p.unserved.length=q.unserved.length:=Za
   refine Zj [2,3] (fun k:Nat=> [(5,.p (.int .i64 k))]) (fun _=> [YP p,YP q]) (fun k=>k<=p.routes.length/\ ∀j,j<k->BR (nth p.routes j) (nth q.routes j)=true) (fun k=>p.routes.length-k) 0 Zb (Weak.mk ?_) ?_
   ·simp (disch:=omega) only [YP,go_sem,seval]
   ·rintro k ⟨hk,hno⟩;simp (disch:=omega) only [YP,go_sem,seval];refine cD ?_ ?_<;>intro h5<;>simp (disch:=omega) only [Sh.out h5,go_sem,seval,↓reduceIte]
    ·have hk2:k<p.routes.length:=Za
     refine Xd (Yv ?_);refine Zo (FE (nth p.routes k) (nth q.routes k) (hp.2.2 _ (ZV hk2)) (hq.2.2 _ (ZV Za))) (Yv ?_)
     cases hs:BR (nth p.routes k) (nth q.routes k) with
     | false =>
      rw [BQ fun h=>by grind];simp (disch:=omega) only [VZ,go_sem,seval]
     | true =>
      refine Mv ?_;exact ⟨k+1,⟨Za,Zn.2 ⟨hno,hs⟩⟩,Za,wk⟩
    ·refine Zj [2,3] (fun k:Nat=> [(6,.p (.int .i64 k))]) (fun _=> [YP p,YP q]) (fun k=>k<=p.unserved.length/\ ∀j,j<k->nth p.unserved j=nth q.unserved j) (fun k=>p.unserved.length-k) 0 Zb (Weak.mk ?_) ?_
     ·simp (disch:=omega) only [YP,go_sem,seval]
     ·rintro i ⟨hi,hno2⟩;simp (disch:=omega) only [YP,go_sem,seval];refine cD ?_ ?_<;>intro h7<;>simp (disch:=omega) only [Sh.out h7,go_sem,seval,↓reduceIte]
      ·have hk2:i<p.unserved.length:=Za
       refine Xd (Yv ?_);refine ZH ?_ ?_<;>intro h8
       ·grind [BQ]
       ·exact ⟨i+1,⟨Za,Zn.2 ⟨hno2,Za⟩⟩,Za,wk⟩
      grind [GH,Cp]
def Fw (x:Inst) (o n:Nat):List V:= [.p (.list x.net.places_c (x.net.places.map eS)),.p (.list x.net.arcs_c (x.net.arcs.map VW)),.p (.list x.types_c (x.types.map Vr)),.sl o 0 n n,.p (.list x.apart_c (x.apart.map eP)),.p (.list x.before_c (x.before.map eP))]
def Io (x:Inst) (k:Nat):List Ord:=W3 (fun j=>if j<k then AC x j else nth x.orders j) x.orders.length
theorem OW {x:Inst} {k:Nat} :(Io x k).length=x.orders.length:=YV
theorem Ll {x:Inst} :Io x 0=x.orders:=(Jz fun j _=>by rfl).trans SM
theorem OV {x:Inst} :Io x x.orders.length=W3 (AC x) x.orders.length:=Jz fun j hj=>by grind
theorem OX {x:Inst} {k:Nat} (h:k<x.orders.length):nth (Io x k) k=nth x.orders k:=by simp_all [Io,Kp]
theorem lW {x:Inst} {k:Nat} :(Io x k).set k (AC x k)=Io x (k+1):=by
 rw [Io,L3];refine Jz fun i _=> ?_
 grind
theorem OY (x:Inst) (ho:x.orders.length<=1048576):ACalls Tryz.prog 35 [.p (Zs x)] [] fun y H'=>y= .agg (Fw x 2 x.orders.length)/\H'= [.cells (Fw x 2 x.orders.length),.cells (Fw x 2 x.orders.length),.elems 16 ((W3 (AC x) x.orders.length).map eOrd)]:=by
 refine Ze [2] Tryz.func35 rfl ZgW ?_;simp (disch:=omega) only [Tryz.f35,go_sem,seval];refine UU (Dm 3 rfl rfl (Yv ?_))
 have h1: ∀q∈x.orders.map eOrd,q.cells.length=16/\ ∀z∈q.cells,z.one=true:=fun q hq=>by
  obtain ⟨o,_,rfl⟩:=Xz.1 hq;exact ⟨rfl,fun z hz=>by simp [eOrd,PV.cells] at hz;rcases hz with rfl | rfl | rfl | rfl | rfl | rfl | rfl | rfl | rfl | rfl | rfl | rfl | rfl | rfl | rfl | rfl<;>rfl⟩
 have key: ∀z:PV,x.orders= []->List.replicate x.orders.length z=(Io x 0).map eOrd:=fun z h=>by rw [Ll,h];rfl
 have key2:x.orders.map eOrd=(Io x 0).map eOrd:=by rw [Ll]
 by_cases h0:x.orders= []
 ·refine ⟨_,_,Gq (e:=59) (S:=16) rfl Tryz.underlying40 Zd rfl rfl rfl Zb (.inl (by rw [h0];rfl)),?_⟩;refine Zf [] _ _ _ _ ?_;simp (disch:=first | omega | (simp only [Zz,ZQ,Zm,Zu,Zy,ZK]<;>omega)) only [eq_self,Du,go_sem,seval,↓reduceIte];refine Zj [1,2,3,14] (fun k:Nat=> [(15,.p (.int .i64 k))]) (fun k=> [Zg x,.cells (List.replicate 6 (.p (.list true []))),.elems 16 ((Io x k).map eOrd)]) (fun k=>k<=x.orders.length) (fun k=>x.orders.length-k) 0 Zb (Weak.mk ?_) ?_
  ·simp (disch:=omega) only [Zg,List.replicate,go_sem,seval]
   grind
  ·intro k hk;have hrl:=OW (x:=x) (k:=k);simp (disch:=first | omega | (simp only [Zz,ZQ,Zm,Zu,Zy,ZK]<;>omega)) only [Zg,List.replicate,eq_self,go_sem,seval];refine cD ?_ ?_<;>intro h2<;>simp (disch:=omega) only [Sh.out h2,hrl,go_sem,seval,↓reduceIte]
   ·have hk2:k<x.orders.length:=Za
    have hnk:=OX hk2
    have he:UW ((Io x k).map eOrd) k=eOrd (nth x.orders k):=by grind
    have ZF:((Io x k).map eOrd).set k (eOrd (AC x k))=(Io x (k+1)).map eOrd:=by grind
    simp only [Hu,AC] at ZF;simp (disch:=first | omega | (simp only [Zz,ZQ,Zm,Zu,Zy,ZK]<;>omega)) only [hrl,eq_self,go_sem,seval];exact ⟨k+1,Za,Za,Weak.mk (by simp (disch:=omega) only [hnk,ZF,go_sem,seval])⟩
   ·have hkl:k=x.orders.length:=Za
    subst hkl;rw [OV];exact ⟨_,_,Weak.refl _ _ _,rfl,rfl⟩
 ·have hl0:0<x.orders.length:=List.length_pos_iff.2 h0;refine ⟨_,_,Gp (e:=59) (S:=16) rfl Tryz.underlying40 Zd Za rfl rfl rfl Zb Zb (by grind) h1,?_⟩;rw [KJ Zb,We];refine Zf [] _ _ _ _ ?_;simp (disch:=first | omega | (simp only [Zz,ZQ,Zm,Zu,Zy,ZK]<;>omega)) only [eq_self,X2,Xj,go_sem,seval,↓reduceIte];refine Zj [1,2,3,14] (fun k:Nat=> [(15,.p (.int .i64 k))]) (fun k=> [Zg x,.cells (List.replicate 6 (.p (.list true []))),.elems 16 ((Io x k).map eOrd)]) (fun k=>k<=x.orders.length) (fun k=>x.orders.length-k) 0 Zb (Weak.mk ?_) ?_
  ·simp (disch:=omega) only [Zg,List.replicate,go_sem,seval];omega
  ·intro k hk;have hrl:=OW (x:=x) (k:=k);simp (disch:=first | omega | (simp only [Zz,ZQ,Zm,Zu,Zy,ZK]<;>omega)) only [Zg,List.replicate,eq_self,go_sem,seval];refine cD ?_ ?_<;>intro h2<;>simp (disch:=omega) only [Sh.out h2,hrl,go_sem,seval,↓reduceIte]
   ·have hk2:k<x.orders.length:=Za
    have hnk:=OX hk2
    have he:UW ((Io x k).map eOrd) k=eOrd (nth x.orders k):=by grind [Yx]
    have ZF:((Io x k).map eOrd).set k (eOrd (AC x k))=(Io x (k+1)).map eOrd:=by rw [<- V4,lW]
    simp only [Hu,AC] at ZF;simp (disch:=first | omega | (simp only [Zz,ZQ,Zm,Zu,Zy,ZK]<;>omega)) only [hrl,eq_self,go_sem,seval];exact ⟨k+1,Za,Za,Weak.mk (by simp (disch:=omega) only [hnk,ZF,go_sem,seval])⟩
   ·have hkl:k=x.orders.length:=Za
    subst hkl;rw [OV];exact ⟨_,_,Weak.refl _ _ _,rfl,rfl⟩
def I6 (x:Inst) (t:Typ) (r:Rte) (c:Bool) (sp:List Stp):PV:= .agg [.list x.net.places_c (x.net.places.map eS),.list x.net.arcs_c (x.net.arcs.map VW),.list x.types_c (x.types.map Vr),.list x.orders_c (x.orders.map eOrd),.list x.apart_c (x.apart.map eP),.list x.before_c (x.before.map eP),.str t.name,.int .i64 t.count,.int .i64 t.src,.int .i64 t.dst,.list t.cap_c (t.cap.map eI),.int .i64 t.skills,.int .i64 t.prof,.int .i64 t.opn,.int .i64 t.cls,.int .i64 t.drive,.int .i64 t.rest,.int .i64 t.fixed,.int .i64 t.perMile,.int .i64 t.perTick,.int .i64 r.typ,.int .i64 r.start,.list r.rests_c (r.rests.map eB),.list r.visits_c (r.visits.map Z2),.list c (sp.map D4)]
@[go_sem] theorem ZjT (x:Inst) (t:Typ) (r:Rte) (c:Bool) (sp:List Stp):I6 x t r c sp= .agg [.list x.net.places_c (x.net.places.map eS),.list x.net.arcs_c (x.net.arcs.map VW),.list x.types_c (x.types.map Vr),.list x.orders_c (x.orders.map eOrd),.list x.apart_c (x.apart.map eP),.list x.before_c (x.before.map eP),.str t.name,.int .i64 t.count,.int .i64 t.src,.int .i64 t.dst,.list t.cap_c (t.cap.map eI),.int .i64 t.skills,.int .i64 t.prof,.int .i64 t.opn,.int .i64 t.cls,.int .i64 t.drive,.int .i64 t.rest,.int .i64 t.fixed,.int .i64 t.perMile,.int .i64 t.perTick,.int .i64 r.typ,.int .i64 r.start,.list r.rests_c (r.rests.map eB),.list r.visits_c (r.visits.map Z2),.list c (sp.map D4)]:=Zw rfl rfl
def ZbK (x:Inst) (t:Typ) (r:Rte):List V:= [.p (.list x.net.places_c (x.net.places.map eS)),.p (.list x.net.arcs_c (x.net.arcs.map VW)),.p (.list x.types_c (x.types.map Vr)),.p (.list x.orders_c (x.orders.map eOrd)),.p (.list x.apart_c (x.apart.map eP)),.p (.list x.before_c (x.before.map eP)),.p (.str t.name),.p (.int .i64 t.count),.p (.int .i64 t.src),.p (.int .i64 t.dst),.p (.list t.cap_c (t.cap.map eI)),.p (.int .i64 t.skills),.p (.int .i64 t.prof),.p (.int .i64 t.opn),.p (.int .i64 t.cls),.p (.int .i64 t.drive),.p (.int .i64 t.rest),.p (.int .i64 t.fixed),.p (.int .i64 t.perMile),.p (.int .i64 t.perTick),.p (.int .i64 r.typ),.p (.int .i64 r.start),.p (.list r.rests_c (r.rests.map eB)),.p (.list r.visits_c (r.visits.map Z2))]
def YQ (x:Inst) (t:Typ) (r:Rte) (c:Bool) (sp:List Stp):AM.Obj:= .cells [.p (.list x.net.places_c (x.net.places.map eS)),.p (.list x.net.arcs_c (x.net.arcs.map VW)),.p (.list x.types_c (x.types.map Vr)),.p (.list x.orders_c (x.orders.map eOrd)),.p (.list x.apart_c (x.apart.map eP)),.p (.list x.before_c (x.before.map eP)),.p (.str t.name),.p (.int .i64 t.count),.p (.int .i64 t.src),.p (.int .i64 t.dst),.p (.list t.cap_c (t.cap.map eI)),.p (.int .i64 t.skills),.p (.int .i64 t.prof),.p (.int .i64 t.opn),.p (.int .i64 t.cls),.p (.int .i64 t.drive),.p (.int .i64 t.rest),.p (.int .i64 t.fixed),.p (.int .i64 t.perMile),.p (.int .i64 t.perTick),.p (.int .i64 r.typ),.p (.int .i64 r.start),.p (.list r.rests_c (r.rests.map eB)),.p (.list r.visits_c (r.visits.map Z2)),.p (.list c (sp.map D4))]
def ZbX : AM.Obj:= .cells [.p (.list true []),.p (.list true []),.p (.list true []),.p (.list true []),.p (.list true []),.p (.list true []),.p (.str []),.p (.int .i64 0),.p (.int .i64 0),.p (.int .i64 0),.p (.list true []),.p (.int .i64 0),.p (.int .i64 0),.p (.int .i64 0),.p (.int .i64 0),.p (.int .i64 0),.p (.int .i64 0),.p (.int .i64 0),.p (.int .i64 0),.p (.int .i64 0),.p (.int .i64 0),.p (.int .i64 0),.p (.list true []),.p (.list true []),.p (.list true [])]
def Ja (L:Lab):PV:= .agg [.int .i64 L.ready,.int .i64 L.since,.bool L.she.rest,.int .i64 L.she.dep,.list L.she.times_c (L.she.times.map eTim),.int .i64 L.she.fin,.int .i64 L.she.miles]
@[go_sem] theorem ZjK (L:Lab):Ja L= .agg [.int .i64 L.ready,.int .i64 L.since,.bool L.she.rest,.int .i64 L.she.dep,.list L.she.times_c (L.she.times.map eTim),.int .i64 L.she.fin,.int .i64 L.she.miles]:=Zw rfl rfl
@[go_sem] theorem Zcv (l:List Lab):AX 7 (l.map Ja)=true:=AY (f:=Ja) (S:=7) (fun _=>rfl) l
def Wq (L:Lab):AM.Obj:= .cells [.p (.int .i64 L.ready),.p (.int .i64 L.since),.p (.bool L.she.rest),.p (.int .i64 L.she.dep),.p (.list L.she.times_c (L.she.times.map eTim)),.p (.int .i64 L.she.fin),.p (.int .i64 L.she.miles)]
theorem aL (l:List Tim) (c:Bool) (hl:l.length<=1048576):ACalls Tryz.prog 312 [.p (.list c (l.map eTim))] [] fun x H'=>x= .sl 0 0 l.length l.length/\H'= [.elems 4 (l.map eTim)]:=by
 suffices hh:ACalls Tryz.prog 312 [.p (.list c (l.map eTim))] [] fun x H'=> ∃m:List Tim,m=l/\x= .sl 0 0 m.length m.length/\H'= [.elems 4 (m.map eTim)] by
  grind
 refine Ze [1] Tryz.func312 rfl ZaF ?_;simp (disch:=omega) only [Tryz.f312,go_sem,seval];refine UU (UU (kL 1 rfl rfl ?_));refine ⟨_,Pr (e:=178) rfl Tryz.underlying93 rfl (fun _=>rfl),?_⟩;rintro _ ⟨b,rfl,hb⟩;refine Yv ?_;refine Zf [] _ _ _ _ ?_
 cases b with
 | true =>
  have hn:l= []:=by simp_all
  subst hn;refine Yv ?_;exact ⟨_,_,Weak.ofNil 0 4 rfl Zb (wk),[],rfl,rfl,rfl⟩
 | false =>
  refine Yv ?_;refine Zf [] _ _ _ _ (Yv ?_);exact ⟨.sl 0 0 l.length l.length,[.elems 4 (l.map eTim)],wk,l,rfl,rfl,rfl⟩
theorem FP (x:Inst) (t:Typ) (r:Rte) (c:Bool) (sp:List Stp):PC 270 [.p (I6 x t r c sp)] (Ja (labF t r.start)):=by
 refine Ze [] Tryz.func270 rfl zQ ?_;simp (disch:=omega) only [Tryz.f270,go_sem,seval];exact we (by simp (disch:=omega) only [labF,zShe,Zk,go_sem,seval])
theorem fF (x:Inst) (t:Typ) (r:Rte) (c:Bool) (sp:List Stp) (k:Nat) (hk:k<=sp.length) (hl:sp.length<=1048576):PC 313 [.p (I6 x t r c sp),.p (.int .i64 (k:Nat))] (.int .i64 (Ug t sp k)):=by
 refine Zc Tryz.func313 rfl ZaG ?_;simp (disch:=omega) only [Tryz.f313,go_sem,seval];refine cD ?_ ?_<;>intro h<;>simp (disch:=omega) only [Sh.out h,go_sem,seval,↓reduceIte]
 ·simp_all [Ug]
 simp_all [Ug]
theorem Zbo (x:Inst) (r:Rte) (hx:InstOk x) (hty:0<=r.typ/\r.typ<(x.types.length:Int)) (h0:Xm x r.visits=0) (hs:0<=r.start/\r.start<=4096) :
  PT 269 [.p (Zs x),.p (YJ r)] [.p (I6 x (Z0 x r) r false (Z8 x r.visits)),.p (.bool true)]:=by
 have hd:=UZ hx;have hsq:=U9 h0;have hol:=hd.ord;have htl:=hd.typ;have hvl:=hsq.len hol
 have e1: ¬r.typ<0:=Za
 have e2: ¬(x.types.length:Int)<=r.typ:=Za
 have e3: ¬r.start<0:=Za
 have e4: ¬ 4096<r.start:=Za
 have e5: ¬ 20<(r.visits.length:Int):=Za
 refine Ze [12] Tryz.func269 rfl cS ?_;simp (disch:=omega) only [Tryz.f269,e1,e2,e3,e4,e5,go_sem,seval];refine Xc [9] 10 mixed Zd Zd Zd Zb (Yv ?_);refine ZU 9 _ _ Zd (by refine Yv ?_;exact ⟨rfl,rfl⟩) (Yg ?_);refine Yv ?_
 refine ZS [12] [2,4,6,49,50] (fun q:Nat×List Stp=> [(51,.p (.int .i64 q.1))])
  (fun q=> [Zg x,Z5 r,ZbX,.cells (ZbK x (Z0 x r) r++ [.sl 4 0 q.2.length q.2.length]),.elems 4 (q.2.map D4)])
  (fun q=>q.1<=r.visits.length/\q.2=(Z8 x r.visits).take q.1) (fun q=>r.visits.length-q.1) (0,[]) Zb ((Weak.nilC (o:=3) (j:=24) 4 rfl rfl Zb).trans (Weak.mk ?_)) ?_
 ·simp (disch:=omega) only [Zg,Z5,ZbX,ZbK,Z0,Zk,ZQ,X2,Xj,ZP,ZR,go_sem,seval]
 ·rintro ⟨k,o⟩ ⟨hk,ho⟩;simp only at hk ho
  have hol2:o.length=k:=by grind [Yu]
  simp (disch:=omega) only [Zg,Z5,ZbX,ZbK,go_sem,seval];refine cD ?_ ?_<;>intro h1<;>simp (disch:=omega) only [Sh.out h1,go_sem,seval,↓reduceIte]
  ·have hk2:k<r.visits.length:=Za
   have hvis:=hsq.vis (Zq hk2);simp only [Ky,ZG,Zl] at hvis
   have hsn:o++ [XC x (nth r.visits k)]=(Z8 x r.visits).take (k+1):=by
    rw [ho,ZE (by grind [Yu]),<- Zi,E2 hk2]
   have hnp: ¬(XC x (nth r.visits k)).place<0:=Za
   refine X0 (Pu x (nth r.visits k) Za hvis.1 hvis.2) ?_;simp (disch:=omega) only [hnp,go_sem,seval];exact ⟨(k+1,o++ [XC x (nth r.visits k)]),⟨Za,hsn⟩,Za,Weak.mk (by simp (disch:=omega) only [Zm,Zz,ZQ,Xi,ZN,Zk,go_sem,seval])⟩
  ·have hkl:k=r.visits.length:=Za
   subst hkl
   have hso:o=Z8 x r.visits:=by grind [Yu]
   subst hso;refine Zp (Weak.fz (o:=4) (by rfl)) (Zf [] _ _ _ _ (Kw ?_));exact we
def Mm (rd sn:Int) (m:She):AM.Obj:= .cells [.p (.int .i64 rd),.p (.int .i64 sn),.p (.bool m.rest),.p (.int .i64 m.dep),.sl 4 0 m.times.length m.times.length,.p (.int .i64 m.fin),.p (.int .i64 m.miles)]
theorem D7 {P:Program} {H:List AM.Obj} {f ars} {a b d:PV} {B:V->Prop} {t} (h:ACalls P f ars [] fun x H'=>x= .tup [.p a,.p b,.p d]/\H'= []) (k:B (.tup [.p a,.p b,.p d])) (ha:Xb 0 ars=true:=by rfl) :
  OQ (fun y=>ACalls P f ars H (Zv (Zv (fun x H'=>x=y/\H'=H) ⟨⟩) ⟨⟩)) (Zv B t) :=
 ⟨.tup [.p a,.p b,.p d],(h.behind ha H).mono fun x H' hq=>by
  obtain ⟨y,H1,⟨rfl,rfl⟩,rfl,rfl⟩:=hq
  simp [shV,shVs,Zv],k⟩
theorem Zba (x:Inst) (t:Typ) (r:Rte) (c:Bool) (sp:List Stp) (hok:TrpOk x t sp) (k:Nat) (hk:k<=sp.length) (hs1:0<sp.length) (L:Lab) (hL:LabR k L) (hlen:L.she.times.length=k) (hclip:0<k->L.she.times_c=false) (b:Bool) :
  PT 295 [.p (I6 x t r c sp),.p (Ja L),.p (.int .i64 (k:Nat)),.p (.bool b)] [.p (Ja (nxtF x t sp k L b).1),.p (.int .i64 (nxtF x t sp k L b).2)]:=by
 have hd:=J3 hok hL b;have hsn:=E0 hL b;have hg:=Hz hok hL b;have hmi:=hL.mil;have hrd:=hL.rdy;have hsnL:=hL.snc;have hsl:=hok.len;have hrst:=hok.rst;unfold nxtF;have hmm:= @Ke k (ZX t L b) b L.she;have hmf:= @Gk k (ZX t L b) b L.she;have hml:= @KZ k (ZX t L b) b L.she;refine Ze [2,7,14,31] Tryz.func295 rfl Zao ?_;simp (disch:=omega) only [Tryz.f295,go_sem,seval];refine Xd (Yv ?_);refine ZJ [2,3,4,5,8] (fun _:Unit=> [(10,.p (.int .i64 (ZX t L b))),(11,.p (.int .i64 (WD L b)))]) (fun _=> [YQ x t r c sp,Wq L,Wq Wn]) (fun _=>True) ?_ ?_
 ·refine Yv ?_;refine ZH ?_ ?_<;>intro h
  ·subst h;exact ⟨(),Weak.mk (by simp (disch:=omega) only [YQ,Wq,Wn,zShe,ZX,WD,Zk,go_sem,seval,↓reduceIte])⟩
  ·subst h;exact ⟨(),Weak.mk (by simp (disch:=omega) only [YQ,Wq,Wn,zShe,ZX,WD,Zk,go_sem,seval,↓reduceIte])⟩
 ·intro _ _;refine Zf [7,14,31] _ _ _ _ ?_;simp (disch:=omega) only [YQ,Wq,Wn,zShe,Zk,go_sem,seval];refine (aL L.she.times L.she.times_c Za).useF (Yv ?_)
  generalize hM:X5 k (ZX t L b) b L.she=M at *
  refine ZJ [2,4,8,10,11,12] (fun _:Unit=> []) (fun _=> [YQ x t r c sp,Wq L,Wq Wn,Mm 0 0 M,.elems 4 (M.times.map eTim)]) (fun _=>True) ?_ ?_
  ·refine Yv ?_;refine ZH ?_ ?_<;>intro h
   ·have hk0:k=0:=Za
    subst hk0
    have e:M= { L.she with rest:=b,dep:=ZX t L b } :=by rw [<- hM,X5,if_pos rfl]
    rw [e];exact ⟨(),Weak.mk (by simp (disch:=omega) only [YQ,Wq,Wn,zShe,Mm,Zk,go_sem,seval])⟩
   ·have e1:((k:Int)-1).toNat=k-1:=Za
    have hk1:k-1<L.she.times.length:=Za
    have O3:(L.she.times.map eTim).set (k-1) (PV.agg [.int .i64 (nth L.she.times (k-1)).arr,.int .i64 (nth L.she.times (k-1)).beg,.int .i64 (nth L.she.times (k-1)).dep,.bool b])=(L.she.times.set (k-1) { nth L.she.times (k-1) with rest:=b }).map eTim:=by
     rw [V4];rfl
    have hn1:nth (L.she.times.set (k-1) { nth L.she.times (k-1) with rest:=b }) (k-1)= { nth L.she.times (k-1) with rest:=b } :=by
     grind [Zi]
    have hl1:(L.she.times.set (k-1) { nth L.she.times (k-1) with rest:=b }).length=L.she.times.length:=Zb
    have hMt:M.times=(L.she.times.set (k-1) { nth L.she.times (k-1) with rest:=b }).set (k-1) { nth (L.she.times.set (k-1) { nth L.she.times (k-1) with rest:=b }) (k-1) with dep:=ZX t L b } :=by
     rw [hn1,List.set_set,<- hM,X5,if_neg Za];rfl
    have hM2:M.rest=L.she.rest/\M.dep=L.she.dep:=by rw [<- hM,X5,if_neg Za];simp
    simp (disch:=first | omega | (simp only [Zz,ZQ,Zm,Zu,Zy,ZK]<;>omega)) only [e1,go_sem,seval,↓reduceIte];rw [O3]
    generalize L.she.times.set (k-1) { nth L.she.times (k-1) with rest:=b } =l1 at *
    simp (disch:=first | omega | (simp only [Zz,ZQ,Zm,Zu,Zy,ZK]<;>omega)) only [e1,hl1,eq_self,WG,go_sem,seval];refine ⟨(),Weak.mk ?_⟩;simp (disch:=omega) only [YQ,Wq,Wn,zShe,Mm,Zk,hM2.1,hM2.2,hmm,hmf,hml,go_sem,seval];rw [hMt,V4]
    rfl
  ·intro _ _;refine Zf [14,31] _ _ _ _ ?_;simp (disch:=omega) only [YQ,Wq,Wn,zShe,Mm,Zk,go_sem,seval];refine ZJ [2,4,8,10,11,12,13] (fun _:Unit=> [(14,.p (.int .i64 (S6 t sp k)))]) (fun _=> [YQ x t r c sp,Wq L,Wq Wn,Mm 0 0 M,.elems 4 (M.times.map eTim)]) (fun _=>True) ?_ ?_
   ·refine Yv ?_;refine ZH ?_ ?_<;>intro h
    ·have e:S6 t sp k=(nth sp k).place:=by rw [S6,if_neg Za]
     exact ⟨(),Weak.mk (by simp (disch:=omega) only [YQ,Wq,Wn,zShe,Mm,Zk,e,go_sem,seval])⟩
    ·have e:S6 t sp k=t.dst:=by rw [S6,if_pos Za]
     exact ⟨(),Weak.mk (by simp (disch:=omega) only [YQ,Wq,Wn,zShe,Mm,Zk,e,go_sem,seval])⟩
   ·intro _ _;refine Zf [31] _ _ _ _ ?_;simp (disch:=omega) only [YQ,Wq,Wn,zShe,Mm,Zk,go_sem,seval];refine Xd (Yv ?_);refine Zo (fF x t r c sp k hk Za) (Yv ?_);refine D7 (rR x.net t.prof (Ug t sp k) (S6 t sp k) (ZX t L b) hok.net Za) (Yv ?_);have hG:WX x.net t.prof (Ug t sp k) (S6 t sp k) (ZX t L b)=Wp x t sp k (ZX t L b):=rfl;rw [hG];clear hG
    generalize Wp x t sp k (ZX t L b)=g at *
    generalize ZX t L b=d at *
    generalize WD L b=s at *
    refine cD ?_ ?_<;>intro h1<;>simp (disch:=omega) only [Sh.out h1,go_sem,seval,↓reduceIte]
    ·have e:WK t sp k g d s M=(Wn,12):=by rw [WK,if_pos h1]
     rw [e];exact we (by simp (disch:=omega) only [Wn,zShe,Zk,go_sem,seval])
    ·refine cD ?_ ?_<;>intro h2<;>simp (disch:=omega) only [Sh.out h2,go_sem,seval,↓reduceIte]
     ·refine cD ?_ ?_<;>intro h3<;>simp (disch:=omega) only [Sh.out h3,go_sem,seval,↓reduceIte]
      ·have e:WK t sp k g d s M=(Wn,15):=by rw [WK,if_neg h1,if_pos Za,if_pos h3]
       rw [e];exact we (by simp (disch:=omega) only [Wn,zShe,Zk,go_sem,seval])
      ·refine Zp (Weak.fz (o:=4) (by rfl)) (Zf [] _ _ _ _ (Kw ?_));refine cD ?_ ?_<;>intro h4<;>simp (disch:=omega) only [Sh.out h4,go_sem,seval,↓reduceIte]
       ·have e:WK t sp k g d s M=(Wn,16):=by rw [WK,if_neg h1,if_pos Za,if_neg h3,if_pos h4]
        rw [e];exact we (by simp (disch:=omega) only [Wn,zShe,Zk,go_sem,seval])
       ·have e:WK t sp k g d s M=(⟨g.1,s+g.1-d,{ M with fin:=g.1,miles:=M.miles+g.2.1 }⟩,0):=by rw [WK,if_neg h1,if_pos Za,if_neg h3,if_neg h4]
        have hMc:M.times_c=false:=by
         rw [<- hM,X5,if_neg Za]
         grind
        rw [e];exact we (by simp (disch:=omega) only [hMc,go_sem,seval])
     ·have h2': ¬k=sp.length:=Za
      have hkl:k<sp.length:=Za
      have hstp:=hok.stp _ (ZV hkl);refine X0 (OB (nth sp k) g.1) ?_;unfold DV
      by_cases h3:(nth sp k).cls<max g.1 (nth sp k).opn
      ·have e:WK t sp k g d s M=(Wn,14):=by simp_all [WK]
       rw [e,if_pos h3];refine Yv ?_;exact we (by simp (disch:=omega) only [Wn,zShe,Zk,go_sem,seval])
      ·rw [if_neg h3];refine Yv ?_;refine Zp (Weak.fz (o:=4) (by rfl)) (Zf [] _ _ _ _ (Kw ?_));refine cD ?_ ?_<;>intro h4<;>simp (disch:=omega) only [Sh.out h4,go_sem,seval,↓reduceIte]
       ·have e:WK t sp k g d s M=(Wn,16):=by simp_all [WK]
        rw [e];exact we (by simp (disch:=omega) only [Wn,zShe,Zk,go_sem,seval])
       ·have e:WK t sp k g d s M=(⟨max g.1 (nth sp k).opn+(nth sp k).serv,s+g.1-d,{ M with times_c:=false,times:=M.times++ [⟨g.1,max g.1 (nth sp k).opn,0,false⟩],miles:=M.miles+g.2.1 }⟩,0):=by simp_all [WK,if_neg]
        rw [e];exact we
theorem Se {x t sp k L b} (hs:0<sp.length) (hc:0<k->L.she.times_c=false) (he:(nxtF x t sp k L b).2=0):(nxtF x t sp k L b).1.she.times_c=false:=by
 have hm:0<k->(X5 k (ZX t L b) b L.she).times_c=false:=fun h=>by rw [X5,if_neg Za];exact hc h
 unfold nxtF at he ⊢
 generalize Wp x t sp k (ZX t L b)=g at *
 generalize ZX t L b=d at *
 generalize WD L b=s at *
 generalize X5 k d b L.she=m at *
 unfold WK at he ⊢
 grind
structure LabO (n k:Nat) (L:Lab):Prop where
 rng:LabR k L
 len:k<=n->L.she.times.length=k
 clip:0<k->L.she.times_c=false
theorem Gc {x t sp k L b} (hok:TrpOk x t sp) (hs:0<sp.length) (hk:k<=sp.length) (h:LabO sp.length k L) (he:(nxtF x t sp k L b).2=0):LabO sp.length (k+1) (nxtF x t sp k L b).1 :=
 ⟨HP hok hk h.rng he,fun hk2=>Ey (h.len hk) he Za,fun _=>Se hs h.clip he⟩
theorem Gd {x t sp} (hok:TrpOk x t sp) {st:Int} (hst:0<=st/\st<=4096):LabO sp.length 0 (labF t st) :=
 ⟨⟨by have:=hok.opn;grind [labF],by simp [labF],by simp [labF,zShe]⟩,fun _=>rfl,fun h=>Za⟩
theorem Po (x:Inst) (t:Typ) (r:Rte) (c:Bool) (sp:List Stp) (hok:TrpOk x t sp) (k:Nat) (hk:k<=sp.length) (hs1:0<sp.length) (L:Lab) (hL:LabO sp.length k L) (b:Bool) :
  PT 295 [.p (I6 x t r c sp),.p (Ja L),.p (.int .i64 (k:Nat)),.p (.bool b)] [.p (Ja (nxtF x t sp k L b).1),.p (.int .i64 (nxtF x t sp k L b).2)] :=
 Zba x t r c sp hok k hk hs1 L hL.rng (hL.len hk) hL.clip b
theorem Zh8 (x:Inst) (t:Typ) (r:Rte) (c:Bool) (sp:List Stp) (hok:TrpOk x t sp) (hs1:0<sp.length) (hst:0<=r.start/\r.start<=4096) (bs:List Bool) (d:Bool) (hb:bs.length=sp.length+1) :
  PT 272 [.p (I6 x t r c sp),.p (.list d (bs.map eB))] [.p (D2 (XG x t sp 0 (labF t r.start) bs).1.she),.p (.int .i64 (XG x t sp 0 (labF t r.start) bs).2)]:=by
 have hsl:=hok.len;refine Ze [] Tryz.func272 rfl zS ?_;simp (disch:=omega) only [Tryz.f272,go_sem,seval];refine (FP x t r c sp).use (Yv ?_)
 refine Zj [2,4,6,13,14] (fun q:Nat×Lab=> [(15,.p (.int .i64 q.1))]) (fun q=> [YQ x t r c sp,.cells [.p (.bool false),.p (.int .i64 0),.p (.list true []),.p (.int .i64 0),.p (.int .i64 0)],Wq q.2])
  (fun q=>q.1<=bs.length/\XG x t sp 0 (labF t r.start) bs=XG x t sp q.1 q.2 (bs.drop q.1)/\LabO sp.length q.1 q.2) (fun q=>bs.length-q.1) (0,labF t r.start) ⟨Zb,Zb,Gd hok hst⟩ (Weak.mk ?_) ?_
 ·simp (disch:=omega) only [YQ,Wq,go_sem,seval]
 ·rintro ⟨k,L⟩ ⟨hk,hrun,hL⟩;simp only at hk hrun hL;simp (disch:=omega) only [YQ,Wq,go_sem,seval];refine cD ?_ ?_<;>intro h1<;>simp (disch:=omega) only [Sh.out h1,go_sem,seval,↓reduceIte]
  ·have hk2:k<bs.length:=Za
   have hdrop:bs.drop k=nth bs k::bs.drop (k+1):=by rw [Wc hk2,Zi hk2]
   rw [hdrop,XG] at hrun;have cn:=Po x t r c sp hok k Za hs1 L hL (nth bs k);have hL2:=Gc (x:=x) (t:=t) (b:=nth bs k) hok hs1 Za hL
   generalize nxtF x t sp k L (nth bs k)=N at *
   refine X0 cn (Yv ?_);refine ZH ?_ ?_<;>intro h2
   ·rw [hrun,if_neg h2];exact we (by simp (disch:=omega) only [Wn,zShe,Zk,go_sem,seval])
   ·rw [if_pos Za] at hrun;exact ⟨(k+1,N.1),⟨Za,hrun,hL2 Za⟩,Za,wk⟩
  ·have hkl:k=bs.length:=Za
   subst hkl;rw [V1,XG] at hrun;rw [hrun];exact we
theorem kM (l m:Lab):PC 298 [.p (Ja l),.p (Ja m)] (.bool (Z9 l m)):=by
 refine Zc Tryz.func298 rfl Zar ?_;simp (disch:=omega) only [Tryz.f298,go_sem,seval];refine gT ?_ ?_<;>intro h<;>simp (disch:=omega) only [Sh.out h,go_sem,seval,↓reduceIte]
 ·simp [Z9,h]
 ·simp [Z9,h]
def gH (x:Inst) (t:Typ) (r:Rte) (c:Bool) (sp:List Stp) (o:List Lab) (f z:Lab):List AM.Obj:= [YQ x t r c sp,.dead,.elems 7 (o.map Ja),Wq f,Wq z]
theorem lX (x:Inst) (t:Typ) (r:Rte) (c:Bool) (sp:List Stp) (o:List Lab) (f z m:Lab):ACalls Tryz.prog 297 [.p (Ja m),.ptr 4 0] (gH x t r c sp o f z) fun y H'=>y= .p (.bool (Z9 m z))/\H'=gH x t r c sp o f z:=by
 refine Ze [] Tryz.func297 rfl Zaq ?_;simp (disch:=omega) only [Tryz.f297,gH,YQ,Wq,go_sem,seval];refine (kM m z).use (Yv ?_);exact we
theorem Nv (x:Inst) (t:Typ) (r:Rte) (c:Bool) (sp:List Stp) (o:List Lab) (f z:Lab) (hl:o.length<=2097152) :
  ACalls Tryz.prog 314 [.sl 2 0 o.length o.length,.fn (.func 297) [] [.ptr 4 0]] (gH x t r c sp o f z) fun y H'=>y= .p (.int .i64 (rF (fun m=>Z9 m z) o))/\H'=gH x t r c sp o f z:=by
 refine Ze [] Tryz.func314 rfl ZaH ?_;simp (disch:=omega) only [Tryz.f314,gH,YQ,Wq,go_sem,seval];refine Zj [0,1,7] (fun k:Nat=> [(8,.p (.int .i64 k))]) (fun _=>gH x t r c sp o f z) (fun k=>k<=o.length/\ ∀j,j<k->Z9 (nth o j) z=false) (fun k=>o.length-k) 0 Zb (Weak.mk ?_) ?_
 ·simp (disch:=omega) only [gH,YQ,Wq,go_sem,seval,↓reduceIte]
 ·rintro k ⟨hk,hno⟩;simp (disch:=omega) only [gH,YQ,Wq,go_sem,seval];refine cD ?_ ?_<;>intro h<;>simp (disch:=omega) only [Sh.out h,go_sem,seval,↓reduceIte]
  ·have hk2:k<o.length:=Za
   have hg:=lX x t r c sp o f z (nth o k);simp (disch:=first | omega | (simp only [Zz,ZQ,Zm,Zu,Zy,ZK]<;>omega)) only [Yx hk2,hk2,go_sem,seval,↓reduceIte];simp (disch:=omega) only [gH,YQ,Wq,go_sem,seval] at hg;refine hg.useH (Yv ?_);refine cD ?_ ?_<;>intro h2<;>simp (disch:=omega) only [Sh.out h2,go_sem,seval,↓reduceIte]
   ·rw [cA (f:=fun m=>Z9 m z) hk2 h2 hno];exact we
   ·exact ⟨k+1,⟨Za,Zn.2 ⟨hno,Za⟩⟩,Za,wk⟩
  ·have hkl:k=o.length:=Za
   subst hkl;rw [cC hno];exact we
theorem Fs (x:Inst) (t:Typ) (r:Rte) (c:Bool) (sp:List Stp) (o:List Lab) (f z:Lab) (hl:o.length<=2097152) :
  ACalls Tryz.prog 296 [.sl 2 0 o.length o.length,.fn (.func 297) [] [.ptr 4 0]] (gH x t r c sp o f z) fun y H'=>y= .p (.bool (o.any fun m=>Z9 m z))/\H'=gH x t r c sp o f z:=by
 refine Ze [] Tryz.func296 rfl Zap ?_;simp (disch:=omega) only [Tryz.f296,go_sem,seval];refine (Nv x t r c sp o f z hl).useH (Yv ?_);rw [cB];exact we (by simp (disch:=omega) only [gH,YQ,Wq,go_sem,seval])
def Ag (x:Inst) (t:Typ) (sp:List Stp) (r:List Bool) (k:Nat) (f:Lab) (bs:List Bool) (l:List Lab):List Lab:=bs.filterMap (XJ x t sp k f)++WV (XJ x t sp) (V8 r) k l
theorem vF (x:Inst) (t:Typ) (r:Rte) (c:Bool) (sp:List Stp) (hok:TrpOk x t sp) (hs1:0<sp.length) (k:Nat) (hk:k<=sp.length) (hrl:r.rests.length<=1048576) (l:List Lab) (d:Bool) (hl:l.length<=1048576) (hL: ∀L∈l,LabO sp.length k L) :
  PC 271 [.p (I6 x t r c sp),.p (.list d (l.map Ja)),.p (.int .i64 (k:Nat))] (.list false ((XT Z9 [] (WV (XJ x t sp) (V8 r.rests) k l)).map Ja)):=by
 have hsl:=hok.len;refine Ze [2,16] Tryz.func271 rfl zR ?_;simp (disch:=omega) only [Tryz.f271,go_sem,seval];refine Zp (Weak.fz (o:=1) (by rfl)) (Kw ?_);refine ZJ [1,2,3] (fun cb:Bool=> [(7,.p (.list cb ((V8 r.rests k).map eB)))]) (fun _=> [YQ x t r c sp,.dead]) (fun _=>True) ?_ ?_
 ·refine Yv ?_;refine ZH ?_ ?_<;>intro h
  ·have hk2:k<r.rests.length:=Za
   have e:V8 r.rests k=(r.rests.take (k+1)).drop k:=by
    grind [V8,ZE]
   exact ⟨r.rests_c&&decide ((k:Int)+1=(r.rests.length:Int)),Weak.mk (by simp (disch:=omega) only [YQ,e,go_sem,seval])⟩
  ·have e:V8 r.rests k= [false,true]:=by grind [V8]
   exact ⟨false,Weak.mk (by simp (disch:=omega) only [YQ,e,ZN,Zk,go_sem,seval])⟩
 ·intro cb _
  have hch:(V8 r.rests k).length<=2:=by grind [V8]
  refine Zf [16] _ _ _ _ ?_;simp (disch:=omega) only [YQ,go_sem,seval]
  refine ZS [16] [2,3,7,29,30] (fun q:Nat×List Lab=> [(8,.sl 2 0 q.2.length q.2.length),(31,.p (.int .i64 q.1))]) (fun q=> [YQ x t r c sp,.dead,.elems 7 (q.2.map Ja)])
   (fun q=>q.1<=l.length/\XT Z9 [] (WV (XJ x t sp) (V8 r.rests) k l)=XT Z9 q.2 (WV (XJ x t sp) (V8 r.rests) k (l.drop q.1))/\q.2.length<=2*q.1) (fun q=>l.length-q.1) (0,[]) Zb (Weak.ofNil 8 7 rfl Zb (Weak.mk ?_)) ?_
  ·simp (disch:=omega) only [YQ,Zk,ZQ,go_sem,seval]
  ·rintro ⟨i,o⟩ ⟨hi,hpr,hol⟩;simp only at hi hpr hol;simp (disch:=omega) only [YQ,go_sem,seval];refine cD ?_ ?_<;>intro h1<;>simp (disch:=omega) only [Sh.out h1,go_sem,seval,↓reduceIte]
   ·have hi2:i<l.length:=Za
    have hLi:=hL _ (ZV hi2)
    have hdrop:l.drop i=nth l i::l.drop (i+1):=by rw [Wc hi2,Zi hi2]
    rw [hdrop] at hpr;have hpr:XT Z9 [] (WV (XJ x t sp) (V8 r.rests) k l)=XT Z9 o (Ag x t sp r.rests k (nth l i) ((V8 r.rests k).drop 0) (l.drop (i+1))):=hpr
    refine Zj [2,3,7,10,29,30,31,35,36] (fun q:Nat×List Lab=> [(8,.sl 2 0 q.2.length q.2.length),(37,.p (.int .i64 q.1))]) (fun q=> [YQ x t r c sp,.dead,.elems 7 (q.2.map Ja),Wq (nth l i)])
     (fun q=>q.1<=(V8 r.rests k).length/\XT Z9 [] (WV (XJ x t sp) (V8 r.rests) k l)=XT Z9 q.2 (Ag x t sp r.rests k (nth l i) ((V8 r.rests k).drop q.1) (l.drop (i+1)))/\q.2.length<=2*i+q.1) (fun q=>(V8 r.rests k).length-q.1) (0,o) ⟨Zb,hpr,hol⟩ (Weak.mk ?_) ?_
    ·simp (disch:=omega) only [YQ,Wq,go_sem,seval]
    ·clear hpr hol;rintro ⟨j,o⟩ ⟨hj,hpr,hol⟩;simp only at hj hpr hol;simp (disch:=omega) only [YQ,Wq,go_sem,seval];refine ZH ?_ ?_<;>intro h2
     ·have hj2:j<(V8 r.rests k).length:=Za
      have hd2:(V8 r.rests k).drop j=nth (V8 r.rests k) j::(V8 r.rests k).drop (j+1):=by rw [Wc hj2,Zi hj2]
      have cn:=Po x t r c sp hok k hk hs1 (nth l i) hLi (nth (V8 r.rests k) j);have ho2:XJ x t sp k (nth l i) (nth (V8 r.rests k) j)=if (nxtF x t sp k (nth l i) (nth (V8 r.rests k) j)).2=0 then some (nxtF x t sp k (nth l i) (nth (V8 r.rests k) j)).1 else none:=rfl;rw [hd2,Ag,List.filterMap_cons,ho2] at hpr
      generalize nxtF x t sp k (nth l i) (nth (V8 r.rests k) j)=N at *
      refine X0 cn (Yv ?_);refine US ?_ ?_<;>intro h3
      ·have hcl:=Fs x t r c sp o (nth l i) N.1 Za;simp (disch:=omega) only [gH,YQ,Wq,go_sem,seval] at hcl;refine hcl.useH (Yv ?_);rw [if_pos h3] at hpr;have hpr:XT Z9 [] (WV (XJ x t sp) (V8 r.rests) k l)=if (o.any fun m=>Z9 m N.1)=true then XT Z9 o (Ag x t sp r.rests k (nth l i) ((V8 r.rests k).drop (j+1)) (l.drop (i+1))) else XT Z9 (o++ [N.1]) (Ag x t sp r.rests k (nth l i) ((V8 r.rests k).drop (j+1)) (l.drop (i+1))):=hpr;refine ZH ?_ ?_<;>intro h4
       ·rw [if_neg (by grind)] at hpr;exact ⟨(j+1,o++ [N.1]),⟨Za,hpr,by simp;omega⟩,Za,Weak.mk (by simp (disch:=omega) only [Zm,Zz,ZQ,Xi,ZN,Zk,go_sem,seval])⟩
       ·rw [if_pos (by grind)] at hpr;exact ⟨(j+1,o),⟨Za,hpr,by grind⟩,Za,wk⟩
      ·rw [if_neg h3] at hpr;exact ⟨(j+1,o),⟨Za,hpr,by grind⟩,Za,wk⟩
     ·have hjl:j=(V8 r.rests k).length:=Za
      subst hjl;rw [V1,Ag,List.filterMap_nil,ZR] at hpr;exact ⟨(i+1,o),⟨Za,hpr,by grind⟩,Za,wk⟩
   ·have hil:i=l.length:=Za
    subst hil;have e:WV (XJ x t sp) (V8 r.rests) k []= []:=rfl;rw [V1,e,XT] at hpr;rw [hpr];refine Zp (Weak.fz (o:=2) (by rfl)) (Zf [] _ _ _ _ (Kw ?_));exact we
end Go.Proofs.YtiigdaohjanidaaGreatDoor.K
