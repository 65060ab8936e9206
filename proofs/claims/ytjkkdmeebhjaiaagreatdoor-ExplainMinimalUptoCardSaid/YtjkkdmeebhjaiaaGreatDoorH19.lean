/- Declarations that the closing texts need, part 19: joined by tools/slim.py. -/
import Derived.Test.YtjkkdmeebhjaiaaGreatDoorH18
import Derived.Shelf.Slices.In.SortNone
import Derived.Shelf.Sort.Plain
set_option linter.unusedVariables false
set_option linter.unusedSimpArgs false
namespace Go.Proofs.YtjkkdmeebhjaiaaGreatDoor.K
open Go Go.AM Go.Proofs
set_option maxRecDepth 8000
theorem gM {x:Inst} (hx:InstOk x) {c:Col} (h:c∈Yd x): ∃(k:Nat) (m:List Vis),k<x.types.length/\Gv x k m=true/\c=Y3 x k (Xz m) m:=by
 obtain ⟨k,S,h1,h2,h3,h4,rfl⟩:=B5.1 h;have hf:=XP hx
 have hopn:0<=(nth x.types ((k:Nat):Int).toNat).opn:=by
  simp_all [WX]
 unfold VZ at h4 ⊢
 split at h4
 ·rename_i hc;rw [if_pos hc];have hS:S / pw x.orders.length=0:=QP h3;have ha:Alw x S:=(QM (by have:=hf.len;omega) hS hf.val).1 hc.1;rw [PF hx Za hS ha hopn] at hc ⊢;rcases Ee _ _ hc.2 with ⟨e,_⟩ | ⟨m,m1,m2,m3⟩
  ·cases e
  ·have m3:(Cb x (k:Int) S (WK,false)).1=_:=m3;simp only [Dt,Zv,Zq] at m2;have hr:RightV x m:=Vy (r:=JT (k:Int) m) (JJ m2.2.2);have e:=m2.1;rw [hr.ord hf] at e
   grind
 ·simp at h4
theorem tW {α β:Type} [Inhabited α] [Inhabited β] {f:α->β} {l:List α} {i:Nat} (h:i<l.length):nth (l.map f) i=f (nth l i):=by
 grind [Zi]
set_option maxHeartbeats 2000000
def P9 (f:Nat->Nat) (z:Int):Int:=if 0<=z then (f z.toNat:Nat) else z
theorem Ta {f:Nat->Nat} {z:Int} :0<=P9 f z↔0<=z:=by unfold P9;split<;>omega
theorem BI {f:Nat->Nat} {a:List Int} {i:Nat} (h:i<a.length):nth (a.map (P9 f)) i=P9 f (nth a i):=tW h
structure Eas (x y:Inst) (l m:List Col) (f:Nat->Nat):Prop where
 len:y.orders.length=x.orders.length
 off: ∀k,k<x.orders.length->(nth y.orders k).off=(nth x.orders k).off
 col: ∀j,j<l.length->f j<m.length/\(nth m (f j)).typ=(nth l j).typ/\(nth m (f j)).set=(nth l j).set/\(nth m (f j)).price<=(nth l j).price
 cnt: ∀j,j<l.length->(nth x.types (nth l j).typ.toNat).count<=(nth y.types (nth l j).typ.toNat).count
 skp: ∀k,k<x.orders.length->(nth x.orders k).off=false->0<=(nth x.orders k).penalty->0<=(nth y.orders k).penalty/\skR y k<=skR x k
section
variable {x y : Inst} {l m : List Col} {f : Nat -> Nat} (h : Eas x y l m f)
include h
theorem Sz {a:List Int} (ha: ∀i,i<a.length->nth a i<l.length) {T:Int} : ∀n,n<=a.length->usdI m (a.map (P9 f)) T n<=usdI l a T n
 | 0,_=>Zy _
 | n+1,hn=>by
  have ih:=Sz ha (T:=T) n Za;rw [usdI,usdI]
  have hp:An m (a.map (P9 f)) T n=true->An l a T n=true:=by
   unfold An;rw [BI (show n<a.length by omega)];simp only [Zv,Zq];rintro ⟨h1,h2,h3⟩;have h0:=Ta.1 h1;have hj:=h.col (nth a n).toNat (by have:=ha n Za;omega)
   have e:(P9 f (nth a n)).toNat=f (nth a n).toNat:=by unfold P9;rw [if_pos h0];omega
   rw [e,hj.2.1] at h2;refine ⟨h0,h2,?_⟩;rw [Cr] at h3 ⊢;intro t ht he;refine h3 t ht ?_;rw [BI Za,BI Za,he]
  split
  ·rename_i c;rw [if_pos (hp c)];omega
  ·split<;>omega
theorem sT {a:List Int} {j:Nat} (hj:j<l.length):(VV (nth l j).set.toNat a j).map (P9 f)=VV (nth m (f j)).set.toNat (a.map (P9 f)) (f j:Nat):=by
 refine Uc (by simp [VV]) fun i h1 h2=> ?_
 have hi:i<a.length:=by simpa [VV] using h1
 rw [<- Zi h1,<- Zi h2,BI (by simpa [VV] using hi),XC hi,XC (by simpa using hi),(h.col j hj).2.2.1,BI hi]
 split
 ·unfold P9;rw [if_pos Za];simp
 ·rfl
theorem sS {a:List Int} {j k:Nat} (ha: ∀i,i<a.length->nth a i<l.length) (hj:j<l.length) (hc:BB x l a j k=true):BB y m (a.map (P9 f)) (f j) k=true:=by
 obtain ⟨c1,c2,c3,_⟩:=h.col j hj;unfold BB at hc ⊢;simp only [Zv,Zq,Kq] at hc ⊢;obtain ⟨h1,h2,h3⟩:=hc;rw [c2,c3,ZB];refine ⟨h1,?_,fun i hi hb=> ?_⟩
 ·have u:=Sz h ha (T:=(nth l j).typ) a.length (Zy _);have:=h.cnt j hj;omega
 ·obtain ⟨g1,g2⟩:=h3 i hi hb;rw [BI hi];refine ⟨?_,g2⟩;unfold P9;rw [if_neg Za];exact g1
theorem EQ : ∀(d:Nat) (a:List Int) (p p':Int),d<=x.orders.length->a.length=x.orders.length->(∀i,i<a.length->nth a i<l.length)->p'<=p-> ∀q∈KC x l d a p,∃q'∈KC y m d (a.map (P9 f)) p',q'.2<=q.2
 | 0,a,p,p',_,_,_,hp,q,hq=>by
  simp only [KC,Z7,Vd,Wi] at hq;subst hq;exact ⟨_,by simp only [KC];exact List.mem_cons_self ..,hp⟩
 | d+1,a,p,p',hd,hl,ha,hp,q,hq=>by
  have hk:x.orders.length-(d+1)<x.orders.length:=Za
  rw [KC] at hq;rw [KC,h.len,h.off _ hk,BI Za];simp only [Ta]
  by_cases c:(nth x.orders (x.orders.length-(d+1))).off=true\/0<=nth a (x.orders.length-(d+1))
  ·rw [if_pos c] at hq ⊢;exact EQ d a p p' Za hl ha hp q hq
  ·rw [if_neg c] at hq ⊢;rcases Xe.1 hq with hq | hq
   ·obtain ⟨j,hj,hq⟩:=X0.1 hq;have hj:=ZO.1 hj
    split at hq
    ·rename_i hc;obtain ⟨c1,c2,c3,c4⟩:=h.col j hj
     obtain ⟨q',h1,h2⟩:=EQ d (VV (nth l j).set.toNat a j) (p+(nth l j).price) (p'+(nth m (f j)).price) Za (by rw [UC];exact hl) (fun i hi=>by
      rw [UC] at hi;rw [XC hi]
      split
      ·omega
      ·exact ha i hi) Za q hq
     rw [sT h hj] at h1;refine ⟨q',List.mem_append_left _ (X0.2 ⟨f j,ZO.2 c1,?_⟩),h2⟩;rw [if_pos (sS h ha hj hc)];exact h1
    ·simp at hq
   ·split at hq
    ·rename_i hc;obtain ⟨s1,s2⟩:=h.skp _ hk (by simpa using fun e=>c (.inl e)) hc;obtain ⟨q',h1,h2⟩:=EQ d a (p+skR x (x.orders.length-(d+1))) (p'+skR y (x.orders.length-(d+1))) Za hl ha Za q hq;refine ⟨q',List.mem_append_right _ ?_,h2⟩;rw [if_pos s1];exact h1
    ·simp at hq
end
theorem IQ {l:List Col} : ∀(L:List (List Int×Int)) (b:Chc),(b.found=true->(L.foldl (YZ l) b).found=true/\(L.foldl (YZ l) b).price<=b.price)/\(∀q∈L,(L.foldl (YZ l) b).found=true/\(L.foldl (YZ l) b).price<=q.2)/\((L.foldl (YZ l) b).found=true->L.foldl (YZ l) b=b\/ ∃q∈L,(L.foldl (YZ l) b).price=q.2)
 | [],b=>⟨fun h=>⟨h,YS _⟩,fun q hq=>by simp at hq,fun _=> .inl rfl⟩
 | q::L,b=>by
  rw [XS];obtain ⟨i1,i2,i3⟩:=IQ (l:=l) L (YZ l b q)
  have hf:(YZ l b q).found=true/\(YZ l b q).price<=q.2/\(b.found=true->(YZ l b q).price<=b.price)/\(YZ l b q=b\/(YZ l b q).price=q.2):=by
   unfold YZ
   split
   ·rename_i c;refine ⟨rfl,YS _,fun hb=> ?_,.inr rfl⟩
    show q.2<=b.price
    rcases c with c | c | c
    ·rw [hb] at c;cases c
    ·omega
    ·omega
   ·rename_i c
    have c1:b.found=true:=by
     cases hb:b.found with
     | true=>rfl
     | false=>exact absurd (.inl hb) c
    refine ⟨c1,?_,fun _=>YS _,.inl rfl⟩;exact Int.not_lt.1 fun g=>c (.inr (.inl g))
  obtain ⟨f1,f2,f3,f4⟩:=hf;obtain ⟨g1,g2⟩:=i1 f1;refine ⟨fun hb=>⟨g1,AS g2 (f3 hb)⟩,fun q' hq=> ?_,fun hfo=> ?_⟩
  ·rcases Z7.1 hq with rfl | hq
   ·exact ⟨g1,AS g2 f2⟩
   ·exact i2 q' hq
  ·rcases i3 hfo with e | ⟨q',hq,e⟩
   ·rcases f4 with f4 | f4
    ·exact .inl (e.trans f4)
    ·exact .inr ⟨q,Zb,by rw [e];exact f4⟩
   ·exact .inr ⟨q',Yo _ hq,e⟩
noncomputable def M6 (x:Inst):List (List Int×Int):=KC x (Yd x) x.orders.length (List.replicate x.orders.length (-1)) 0
theorem Fm {x:Inst} (hx:InstOk x) (hn:x.orders.length<=4):(Xm x=24/\JO x=0/\M6 x= [])\/(Xm x=0/\(∃q∈M6 x,JO x=q.2)/\ ∀q∈M6 x,JO x<=q.2):=by
 obtain ⟨hl,_⟩:=EN hn (wJ hx);have hr:=dQ hx hn;obtain ⟨u1,u2,u3⟩:=IQ (l:=Yd x) (M6 x) zCh;have ea:Ez x (Yd x)=(M6 x).foldl (YZ (Yd x)) zCh:=rfl;rw [<- ea] at u1 u2 u3;obtain ⟨b,hb,h1,h2⟩:=Ms x;rcases hb with ⟨k1,_⟩ | ⟨_,⟨c,kc,k2⟩,_⟩ | ⟨_,_,k3⟩
 ·omega
 ·rw [hr c kc] at k2;cases k2
 ·rcases k3 with ⟨k4,rfl,k5⟩ | ⟨k4,rfl,k5⟩
  ·refine .inl ⟨k5,(h1 (by rw [k5];decide)).2,?_⟩
   cases hc:M6 x with
   | nil=>rfl
   | cons q L =>
    have:=(u2 q (by rw [hc];simp)).1;rw [k4] at this;cases this
  ·have e:=(h2 k5).1;have e:JO x=(Ez x (Yd x)).price:=e;refine .inr ⟨k5,?_,fun q hq=>by rw [e];exact (u2 q hq).2⟩;rcases u3 k4 with g | ⟨q,hq,g⟩
   ·rw [g] at k4;cases k4
   ·exact ⟨q,hq,by rw [e];exact g⟩
theorem TE {x y:Inst} {f:Nat->Nat} (hx:InstOk x) (hy:InstOk y) (hn:x.orders.length<=4) (h:Eas x y (Yd x) (Yd y) f) (h0:Xm x=0):Xm y=0/\JO y<=JO x:=by
 rcases Fm hx hn with ⟨g,_⟩ | ⟨_,⟨q,hq,e⟩,_⟩
 ·omega
 ·obtain ⟨q',h1,h2⟩:=EQ h x.orders.length (List.replicate x.orders.length (-1)) 0 0 (Zy _) Zb (fun i hi=>by
   rw [Fc (by simpa using hi)];omega) (YS _) q hq
  have em:(List.replicate x.orders.length (-1:Int)).map (P9 f)=List.replicate y.orders.length (-1):=by
   rw [AH,h.len];rfl
  rw [em] at h1
  have h1:q'∈M6 y:=by unfold M6;rw [h.len] at h1 ⊢;exact h1
  rcases Fm hy (by rw [h.len];exact hn) with ⟨_,_,g⟩ | ⟨g,_,g2⟩
  ·rw [g] at h1;simp at h1
  ·refine ⟨g,?_⟩;have:=g2 q' h1;omega
theorem Uk {x:Inst} (hx:InstOk x) (hn:x.orders.length<=4):Xm x=0\/Xm x=24:=by
 rcases Fm hx hn with h | h
 ·exact .inr h.1
 ·exact .inl h.1
theorem Sp {x y:Inst} (hx:InstOk x) (hy:InstOk y) (ht:y.types.length=x.types.length) (hp: ∀(k:Nat) (m:List Vis),k<x.types.length->(YT x (JT k m)).2=0->(YT y (JT k m)).2=0/\(YT y (JT k m)).1<=(YT x (JT k m)).1) :
  ∃f:Nat->Nat,∀j,j<(Yd x).length->(∃k:Nat,k<x.types.length/\(nth (Yd x) j).typ=(k:Int))/\f j<(Yd y).length/\(nth (Yd y) (f j)).typ=(nth (Yd x) j).typ/\(nth (Yd y) (f j)).set=(nth (Yd x) j).set/\(nth (Yd y) (f j)).price<=(nth (Yd x) j).price:=by
 have H: ∀j,j<(Yd x).length-> ∃i,(∃k:Nat,k<x.types.length/\(nth (Yd x) j).typ=(k:Int))/\i<(Yd y).length/\(nth (Yd y) i).typ=(nth (Yd x) j).typ/\(nth (Yd y) i).set=(nth (Yd x) j).set/\(nth (Yd y) i).price<=(nth (Yd x) j).price:=fun j hj=>by
  obtain ⟨k,m,h1,h2,h3⟩:=gM hx (Zu hj);have h4:(YT x (JT (k:Int) m)).2=0:=AK h2;obtain ⟨h5,h6⟩:=hp k m h1 h4;obtain ⟨i,i1,i2,i3,i4⟩:=ZaD hy h5 ⟨by show (0:Int)<=(k:Int);omega,by show (k:Int)<_;omega⟩ rfl rfl;rw [h3];exact ⟨i,⟨k,h1,rfl⟩,i1,i2,i3,AS i4 h6⟩
 classical
 exact ⟨fun j=>if g:j<(Yd x).length then Classical.choose (H j g) else 0,fun j g=>by
  simp only [dif_pos g];exact Classical.choose_spec (H j g)⟩
theorem Gg {x:Inst} {l:List Col} (h: ∀k,k<x.orders.length->(nth x.orders k).off=false->0<=(nth x.orders k).penalty): ∀(d:Nat) (a:List Int) (p:Int),d<=x.orders.length->KC x l d a p≠ []
 | 0,a,p,_=>by simp [KC]
 | d+1,a,p,hd=>by
  rw [KC]
  split
  ·exact Gg h d a p Za
  ·rename_i c;have:=h (x.orders.length-(d+1)) Za (by simpa using fun e=>c (.inl e));rw [if_pos this];intro e;exact Gg h d a _ Za (Ub.1 e).2
theorem pC {x:Inst} (hx:InstOk x) (hn:x.orders.length<=4) (h: ∀k,k<x.orders.length->(nth x.orders k).off=false->0<=(nth x.orders k).penalty):Xm x=0:=by
 rcases Fm hx hn with ⟨_,_,g⟩ | g
 ·exact absurd g (Gg h _ _ _ (Zy _))
 ·exact g.1
theorem VC {x:Inst} {l:List Itm} :(Zn x l).orders.length=x.orders.length/\(Zn x l).types.length=x.types.length:=⟨YI _ _,Ww _ _⟩
theorem TD {x y:Inst} {k:Nat} (hl:y.orders.length=x.orders.length) (ho:(nth y.orders k).off=(nth x.orders k).off) (hw:(nth y.orders k).now=(nth x.orders k).now) (hp:(nth y.orders k).penalty=(nth x.orders k).penalty):skR y k=skR x k:=by
 unfold skR unsF;rw [hl,XD,ho,hw,hp]
theorem pD {x:Inst} {l:List Itm} (hx:InstOk x) (hn:x.orders.length<=4) (hI: ∀v∈l,XI x v=true) (h:Xm x=0):Xm (Zn x l)=0/\JO (Zn x l)<=JO x:=by
 have hy:=QD hx hI;obtain ⟨ol,tl⟩:=VC (x:=x) (l:=l);have on: ∀i,i<x.orders.length->nth (Zn x l).orders i=Ws (nth x.orders i) i l:=fun i h=>ZW h;have tn: ∀i,i<x.types.length->nth (Zn x l).types i=Y8 (nth x.types i) i l:=fun i h=>YJ h;obtain ⟨f,hf⟩:=Sp hx hy tl fun k m _ he=>Ro hx hy hI he;refine TE hx hy hn (f:=f) ⟨ol,fun k hk=>by rw [on k hk];rfl,fun j hj=>(hf j hj).2,fun j hj=> ?_,fun k hk ho hp=> ?_⟩ h
 ·obtain ⟨⟨k,hk,e⟩,_⟩:=hf j hj;have hc:=hx.types.2 k hk;unfold UE at hc;have hc:=hc.1.1.1.1.1.1.2;rw [U9] at hc;rw [e,XD,tn k hk];simp only [Y8]
  split<;>omega
 ·have hn10:(⟨10,((k:Nat):Int)⟩:Itm) ∉ l:=fun hm=>by
   have h1:=hI _ hm;rw [JA Zb] at h1;have h2:=h1.2;simp [K7] at h2;omega
  have e1:(nth (Zn x l).orders k).penalty=(nth x.orders k).penalty:=by rw [on k hk];simp only [Ws];rw [if_neg hn10]
  refine ⟨Za,?_⟩;rw [TD ol (by rw [on k hk];rfl) (by rw [on k hk];rfl) e1];exact YS _
theorem pA {x:Inst} {L L':List Itm} (hx:InstOk x) (hn:x.orders.length<=4) (hI: ∀v∈L',XI x v=true) (hs: ∀v∈L,v∈L') (h:Xm (Zn x L)=0):Xm (Zn x L')=0/\JO (Zn x L')<=JO (Zn x L):=by
 rw [<- MB hs hI];exact pD (QD hx fun v hv=>hI v (hs v hv)) (by rw [VC.1];exact hn) (kS hI) h
theorem pB {x:Inst} {L:List Itm} (hx:InstOk x) (hn:x.orders.length<=4) (hI: ∀v∈L,XI x v=true) (ha: ∀v,XI x v=true->v∈L):Xm (Zn x L)=0:=by
 have ol:=(VC (x:=x) (l:=L)).1;refine pC (QD hx hI) (by rw [ol];exact hn) fun k hk ho=> ?_;rw [ol] at hk;have on:nth (Zn x L).orders k=Ws (nth x.orders k) k L:=ZW hk;rw [on] at ho ⊢;have ho:(nth x.orders k).off=false:=ho;have hp:=(hx.orders.2 k hk).arg;simp only [argOk,Zv,U9] at hp;simp only [Ws]
 split
 ·exact YS _
 ·rename_i hm;refine Je fun hneg=>hm (ha _ ?_);rw [JA Zb];refine ⟨?_,?_⟩
  ·simp only [Vl,Zv,Zq,XN,XD];exact ⟨⟨Za,Za⟩,ho⟩
  ·simp only [K7,XD];simp;omega
structure PenE (x y:Inst):Prop where
 net:y.net=x.net
 typ:y.types=x.types
 ap:y.apart=x.apart
 be:y.before=x.before
 len:y.orders.length=x.orders.length
 ord: ∀j,∃q,nth y.orders j= { nth x.orders j with penalty:=q }
section
variable {x y : Inst} (h : PenE x y)
include h
theorem EK (j:Nat):(nth y.orders j).pick=(nth x.orders j).pick/\(nth y.orders j).drp=(nth x.orders j).drp/\(nth y.orders j).off=(nth x.orders j).off/\(nth y.orders j).load=(nth x.orders j).load/\(nth y.orders j).skills=(nth x.orders j).skills/\(nth y.orders j).last=(nth x.orders j).last/\(nth y.orders j).now=(nth x.orders j).now/\(nth y.orders j).name=(nth x.orders j).name/\(nth y.orders j).split=(nth x.orders j).split:=by
 obtain ⟨q,e⟩:=h.ord j;rw [e];exact ⟨rfl,rfl,rfl,rfl,rfl,rfl,rfl,rfl,rfl⟩
theorem uW (i:Nat):ZV y.orders i=ZV x.orders i:=by
 unfold ZV;obtain ⟨h1,h2,_⟩:=EK h i;rw [h1,h2]
theorem ZdQ (l:List Vis):Xf y l=Xf x l:=by
 have e1:WJ y=WJ x:=by funext v;unfold WJ;rw [h.len]
 have e2:(fun v:Vis=>(nth y.orders v.order.toNat).off)=fun v=>(nth x.orders v.order.toNat).off:=by funext v;exact (EK h _).2.2.1
 have e3:pairB y.orders l=pairB x.orders l:=by funext v;unfold pairB;rw [uW h]
 unfold Xf;rw [e1,e2,e3,h.ap,h.be]
theorem ZdO (l:List Vis) (n:Nat):Y2 y l n=Y2 x l n:=by
 unfold Y2;rw [h.typ];refine Wk fun j _=> ?_;unfold Dn;rw [h.len]
 congr 1
 refine Wk fun i _=> ?_;unfold EJ;obtain ⟨h1,h2,_,h4,_⟩:=EK h i;rw [h1,h4]
theorem uV (l:List Vis):ZK y l=ZK x l:=by
 unfold ZK;refine Wk fun v _=> ?_;unfold Xo;obtain ⟨h1,h2,_⟩:=EK h v.order.toNat;rw [h1,h2]
theorem nQ : nxtF y=nxtF x:=by
 funext t sp k L b
 unfold nxtF Y9;rw [h.net]
theorem uT : Xt y=Xt x:=by
 funext t sp k L b
 unfold Xt;rw [nQ h]
theorem nR (t:Typ) (sp:List Stp): ∀(bs:List Bool) (k:Nat) (L:Lab),Xb y t sp k L bs=Xb x t sp k L bs
 | [],_,_=>by rw [Xb,Xb]
 | b::bs,k,L=>by
  rw [Xb,Xb,nQ h]
  split
  ·exact nR t sp bs _ _
  ·rfl
theorem uS (t:Typ) (sp:List Stp) (st:Int) (r:List Bool):Yf y t sp st r=Yf x t sp st r:=by
 unfold Yf;rw [uT h]
 split
 ·rfl
 ·rw [nR h]
theorem uU (r:Rte):XU y r=XU x r:=by
 have e1:Zx y r=Zx x r:=by unfold Zx;rw [h.typ]
 have e2:(fun v:Vis=> !YK (Zx x r) (nth y.orders v.order.toNat).skills)=fun v=> !YK (Zx x r) (nth x.orders v.order.toNat).skills:=by funext v;rw [(EK h _).2.2.2.2.1]
 have e3:Vz y (Zx x r).cap r.visits=Vz x (Zx x r).cap r.visits:=by
  unfold Vz
  congr 1
  funext n
  rw [ZdO h]
 unfold XU;rw [e1,e2,e3,ZdQ h,h.typ]
theorem Og (r:Rte):Xp y r=Xp x r:=by
 unfold Xp;rw [uS h,uV h,show Zx y r=Zx x r by unfold Zx;rw [h.typ]]
theorem Tl (r:Rte):Xq y r=Xq x r:=by
 unfold Xq;rw [uU h,Og h]
theorem nN (l:List Vis) (t:Int): ∀n,chgF y l t n=chgF x l t n
 | 0=>by rw [chgF,chgF]
 | n+1=>by
  have h1:=EK h (nth l n).order.toNat;rw [chgF,chgF,nN l t n,h1.2.2.2.2.2.1,h1.2.2.2.2.2.2.1]
theorem nO (r:Rte):We y r=We x r:=by
 unfold We De;rw [Tl h,Og h,nN h,show Zx y r=Zx x r by unfold Zx;rw [h.typ]]
theorem ZdP (r:Rte):YT y r=YT x r:=by
 unfold YT;rw [Tl h,nO h]
theorem nS (hx:InstOk x) (hy:InstOk y) (hn:x.orders.length<=4) (hp: ∀j,j<x.orders.length->(nth x.orders j).off=false->(nth y.orders j).penalty=(nth x.orders j).penalty\/(nth y.orders j).penalty= -1) (he:Xm y=0):Xm x=0/\JO x<=JO y:=by
 obtain ⟨f,hf⟩:=Sp hy hx (by rw [h.typ]) fun k m _ hk=>by rw [ZdP h] at hk ⊢;exact ⟨hk,YS _⟩
 refine TE hy hx (by rw [h.len];exact hn) (f:=f) ⟨h.len.symm,fun k _=>(EK h k).2.2.1.symm,fun j hj=>(hf j hj).2,fun j hj=>by rw [h.typ];exact YS _,fun k hk ho hq=> ?_⟩ he;rw [h.len] at hk;rw [(EK h k).2.2.1] at ho;have h1:=hp k hk ho
 have h2:(nth x.orders k).penalty=(nth y.orders k).penalty:=Za
 refine ⟨Za,?_⟩;rw [TD h.len.symm (EK h k).2.2.1.symm (EK h k).2.2.2.2.2.2.1.symm h2];exact YS _
end
theorem nP (x:Inst):PenE x (Zn x [])/\PenE (Zn x []) x:=by
 rw [Ds];exact ⟨⟨rfl,rfl,rfl,rfl,rfl,fun j=>⟨(nth x.orders j).penalty,rfl⟩⟩,⟨rfl,rfl,rfl,rfl,rfl,fun j=>⟨(nth x.orders j).penalty,rfl⟩⟩⟩
theorem eG {x:Inst} (hx:InstOk x) (hn:x.orders.length<=4):Xm (Zn x [])=Xm x:=by
 have hy:InstOk (Zn x []):=QD hx Zb;obtain ⟨f1,f2⟩:=nP x
 have e: ∀j,(nth (Zn x []).orders j).penalty=(nth x.orders j).penalty:=fun j=>by rw [Ds]
 have a:=nS f1 hx hy hn (fun j _ _=> .inl (e j));have b:=nS f2 hy hx (by rw [VC.1];exact hn) (fun j _ _=> .inl (e j).symm);have c:=Uk hx hn;have d:=Uk hy (by rw [VC.1];exact hn);rcases c with c | c<;>rcases d with d | d
 ·omega
 ·have:=(b c).1;omega
 ·have:=(a d).1;omega
 ·omega
def YX (x:Inst) (i:Nat):Inst:= { x with orders_c:=false,orders:=x.orders.set i { nth x.orders i with penalty:= -1 } }
theorem Tc {x:Inst} {i j:Nat} (hi:i<x.orders.length):nth (YX x i).orders j=if i=j then { nth x.orders i with penalty:= -1 } else nth x.orders j:=L4 hi
theorem mH {x:Inst} {i:Nat} (hi:i<x.orders.length):PenE x (YX x i):=⟨rfl,rfl,rfl,rfl,VO ..,fun j=>by
 rw [Tc hi]
 split
 ·rename_i e;subst e;exact ⟨_,rfl⟩
 ·exact ⟨_,rfl⟩⟩
theorem LY {x:Inst} {i:Nat} (hx:InstOk x) (hi:i<x.orders.length):InstOk (YX x i):=by
 have hl:(YX x i).orders.length=x.orders.length:=VO ..;have ho:=hx.orders;refine ⟨hx.net,hx.types,⟨by rw [hl];exact ho.1,fun j hj=> ?_⟩,?_⟩
 ·rw [hl] at hj;have hh:=ho.2 j hj;obtain ⟨h1,h2,h3,h4,h5,h6,h7,h8,h9⟩:=EK (mH hi) j
  show OrdOk x.net.places.length (dimsOf x.types) x.types.length (YX x i).orders j
  refine ⟨?_,?_,?_,?_,?_,?_,?_,?_,?_,?_⟩
  ·rw [h8];exact hh.name
  ·intro k hk;rw [h8,(EK (mH hi) k).2.2.2.2.2.2.2.1];exact hh.twin k hk
  ·rw [h4];exact hh.load
  ·rw [h1];exact hh.pick
  ·rw [h2];exact hh.drp
  ·rw [h1,h2];exact hh.one
  ·rw [h1];exact hh.pstp
  ·rw [h2];exact hh.dstp
  ·rw [h5];exact hh.skills
  ·have ha:=hh.arg
   have hp: -1<=(nth (YX x i).orders j).penalty/\(nth (YX x i).orders j).penalty<=1000000:=by
    simp only [argOk,Zv,U9] at ha;rw [Tc hi]
    split
    ·simp
    ·exact ha.1.1
   simp only [argOk,FM,Zv,U9,h1,h2,h6,h7,h9] at ha ⊢;exact ⟨⟨hp,ha.1.2⟩,ha.2⟩
 ·have e:chk ((YX x i).orders.length:Int) x.apart x.before= []:=by rw [hl];exact hx.rules
  exact e
def DV (x:Inst) (l:List Itm):List Itm:=(YF x 10).filter fun v=>decide (v ∉ l)
def Ym (x:Inst) (l:List Itm):Inst:=Zn x (DV x l)
def KI (x:Inst) (l:List Itm):Inst:=if YW x l=0 then Ym x l else zeroI
theorem Gj {x:Inst} {l:List Itm} {v:Itm} :v∈DV x l↔XI x v=true/\v ∉ l:=by
 rw [DV,Jk,Qs,Zq]
theorem C0 {x:Inst} {l:List Itm} : ∀v∈DV x l,XI x v=true:=fun _ h=>(Gj.1 h).1
theorem GH (x:Inst):(YF x 10).Nodup:=(Ad x 10).imp fun {a b} h e=>by
 subst e;rw [UZ] at h;omega
theorem Gz (x:Inst) (l:List Itm):YW x (DV x l)=0:=FW.2 ⟨C0,(GH x).filter _⟩
theorem Ac {x:Inst} {l:List Itm} (h:l.Sublist (YF x 10)):YW x l=0:=FW.2 ⟨fun v hv=>Qs.1 (h.subset hv),(GH x).sublist h⟩
theorem LN {x:Inst} {l:List Itm} (hx:InstOk x):InstOk (Ym x l):=QD hx C0
theorem Gd {x:Inst} {l:List Itm} :(Ym x l).orders.length=x.orders.length:=VC.1
theorem lN {x:Inst} :Ym x (YF x 10)=Zn x []:=by
 have:DV x (YF x 10)= []:=by
  rw [DV,List.filter_eq_nil_iff];intro v hv;simp [hv]
 rw [Ym,this]
theorem bV {x:Inst} {A B:List Itm} (hx:InstOk x) (hn:x.orders.length<=4) (h: ∀v∈A,v∈B) (he:Xm (Ym x B)=0):Xm (Ym x A)=0 :=
 (pA hx hn C0 (fun v hv=>by rw [Gj] at hv ⊢;exact ⟨hv.1,fun g=>hv.2 (h v g)⟩) he).1
theorem bW {x:Inst} (hx:InstOk x) (hn:x.orders.length<=4):Xm (Ym x [])=0:=pB hx hn C0 fun v hv=>Gj.2 ⟨hv,Zb⟩
theorem lP {x:Inst} (hx:InstOk x) (hn:x.orders.length<=4):Xm (Ym x (YF x 10))=Xm x:=by rw [lN];exact eG hx hn
theorem JC {x:Inst} (hx:InstOk x) (hn:x.orders.length<=4) (l:List Itm):Xm (Ym x l)=0\/Xm (Ym x l)=24:=Uk (LN hx) (by rw [Gd];exact hn)
noncomputable def JG (x:Inst):Nat->List Itm->Nat->List Itm
 | 0,l,_=>l
 | f+1,l,k=>if k<l.length then (if Xm (Ym x (l.eraseIdx k))=24 then JG x f (l.eraseIdx k) k else JG x f l (k+1)) else l
theorem sV {l:List Itm} {k i:Nat} (hik:i<k) {v:Itm} (h:v∈(l.eraseIdx k).eraseIdx i):v∈l.eraseIdx i:=by
 rw [List.mem_eraseIdx_iff_getElem] at h ⊢;obtain ⟨j,hj,hne,rfl⟩:=h;rw [List.getElem_eraseIdx]
 split
 ·exact ⟨j,by have:=List.length_eraseIdx_le l k;omega,hne,rfl⟩
 ·rename_i hjk;exact ⟨j+1,by rw [List.length_eraseIdx] at hj;split at hj<;>omega,Za,rfl⟩
theorem DS {x:Inst} (hx:InstOk x) (hn:x.orders.length<=4): ∀(f:Nat) (l:List Itm) (k:Nat),l.length<=k+f->Xm (Ym x l)=24->(∀i,i<k->i<l.length->Xm (Ym x (l.eraseIdx i))=0) ->
  (JG x f l k).Sublist l/\Xm (Ym x (JG x f l k))=24/\ ∀i,i<(JG x f l k).length->Xm (Ym x ((JG x f l k).eraseIdx i))=0
 | 0,l,k,h1,h2,h3=>⟨List.Sublist.refl _,h2,fun i hi=>by rw [JG] at hi ⊢;exact h3 i Za hi⟩
 | f+1,l,k,h1,h2,h3=>by
  rw [JG]
  split
  ·rename_i hk
   split
   ·rename_i h4
    have hl:(l.eraseIdx k).length=l.length-1:=by rw [List.length_eraseIdx,if_pos hk]
    obtain ⟨g1,g2,g3⟩:=DS hx hn f (l.eraseIdx k) k Za h4 fun i hi hi2=>bV hx hn (fun v hv=>sV hi hv) (h3 i hi Za);exact ⟨g1.trans (List.eraseIdx_sublist l k),g2,g3⟩
   ·rename_i h4;refine DS hx hn f l (k+1) Za h2 fun i hi hi2=> ?_;rcases Wm i k with h5 | h5
    ·exact h3 i h5 hi2
    ·obtain rfl:i=k:=Za
     rcases JC hx hn (l.eraseIdx i) with h6 | h6
     ·exact h6
     ·exact absurd h6 h4
  ·exact ⟨List.Sublist.refl _,h2,fun i hi=>h3 i Za hi⟩
noncomputable def BH (x:Inst):List Itm:=JG x (YF x 10).length (YF x 10) 0
noncomputable def QI (x:Inst):List Itm:=if Xm x=24 then BH x else []
noncomputable def QH (x:Inst):Int:=if Xm x=24 then 0 else 9
theorem Ip {x:Inst} (hx:InstOk x) (hn:x.orders.length<=4) (h:Xm x=24):(BH x).Sublist (YF x 10)/\Xm (Ym x (BH x))=24/\ ∀i,i<(BH x).length->Xm (Ym x ((BH x).eraseIdx i))=0 :=
 DS hx hn _ _ 0 Za (by rw [lP hx hn];exact h) fun i hi=>Za
theorem mD {x:Inst} (hx:InstOk x) (hn:x.orders.length<=4) (h:Xm x=24):0<(BH x).length:=by
 obtain ⟨_,h2,_⟩:=Ip hx hn h;rcases Nat.eq_zero_or_pos (BH x).length with e | e
 ·rw [E0] at e;rw [e,bW hx hn] at h2;cases h2
 ·exact e
noncomputable def KQ (x:Inst) (l:List Itm):Int :=
 if YW x l≠0 then YW x l else if Xm (Ym x l)≠24 then 9 else if ((List.range l.length).any fun i=>decide (Xm (Ym x (l.eraseIdx i))=24))=true then 33 else 0
theorem mC {x:Inst} (hx:InstOk x) (hn:x.orders.length<=4) (h:Xm x=24):KQ x (BH x)=0:=by
 obtain ⟨h1,h2,h3⟩:=Ip hx hn h;rw [KQ,if_neg (by rw [Ac h1];simp),if_neg (by rw [h2];simp),if_neg];intro hh;obtain ⟨i,hi,e⟩:=Wl.1 hh;rw [h3 i (ZO.1 hi)] at e;simp at e
theorem J4 {x:Inst} {l:List Itm} (h:YW x l=0) (i:Nat):YW x (l.eraseIdx i)=0:=by
 rw [FW] at h ⊢;exact ⟨fun v hv=>h.1 v (List.mem_of_mem_eraseIdx hv),h.2.sublist (List.eraseIdx_sublist l i)⟩
set_option maxRecDepth 60000
set_option maxHeartbeats 8000000
theorem Cf (l:List Itm) (c:Bool) (v:Itm) (hl:l.length<=1048576):PC 30 [.p (.list c (l.map Xn)),.p (Xn v)] (.bool (decide (v∈l))):=by
 refine Zc Tryz.func30 rfl Zjh ?_;simp (disch:=omega) only [Tryz.f30,go_sem,seval];refine Zl [3,7,8] (fun k:Nat=> [(9,.p (.int .i64 k))]) (fun _=> [.cells [.p (.int .i64 v.kind),.p (.int .i64 v.a)]]) (fun k=>k<=l.length/\ ∀j,j<k-> ¬nth l j=v) (fun k=>l.length-k) 0 Zb (Weak.mk ?_) ?_
 ·simp (disch:=omega) only [go_sem,seval]
 ·rintro k ⟨hk,hno⟩;simp (disch:=omega) only [go_sem,seval];refine cD ?_ ?_<;>intro h<;>simp (disch:=omega) only [Sh.out h,go_sem,seval]
  ·have hk2:k<l.length:=Za
   refine cD ?_ ?_<;>intro h2<;>simp (disch:=omega) only [Sh.out h2,go_sem,seval]
   ·have:nth l k=v:=by rw [XL];first | omega | (simp at h2;omega)
    have hm:v∈l:=this ▸ Zu hk2;simp [hm]
   ·have: ¬nth l k=v:=by rw [XL];first | omega | (simp at h2;omega)
    exact ⟨k+1,⟨Za,Zr.2 ⟨hno,this⟩⟩,Za,wk⟩
  ·have hkl:k=l.length:=Za
   subst hkl
   have hm:v ∉ l:=fun hm=>by
    obtain ⟨j,hj,e⟩:=ZU.1 hm;exact hno j hj (by rw [Zi hj];exact e)
   simp [hm]
theorem kX (l:List Itm) (c:Bool) (v:Itm) (hl:l.length<=1048576):PC 44 [.p (.list c (l.map Xn)),.p (Xn v)] (.bool (decide (v∈l))):=by
 refine Zc Tryz.func44 rfl Zjr ?_;simp (disch:=omega) only [Tryz.f44,go_sem,seval];refine Zl [0,3] (fun k:Nat=> [(5,.p (.int .i64 k))]) (fun _=> [.cells [.p (.int .i64 v.kind),.p (.int .i64 v.a)]]) (fun k=>k<=l.length/\ ∀j,j<k-> ¬nth l j=v) (fun k=>l.length-k) 0 Zb (Weak.mk ?_) ?_
 ·simp (disch:=omega) only [go_sem,seval]
 ·rintro k ⟨hk,hno⟩;simp (disch:=omega) only [go_sem,seval];refine cD ?_ ?_<;>intro h<;>simp (disch:=omega) only [Sh.out h,go_sem,seval]
  ·have hk2:k<l.length:=Za
   refine Xj ?_;simp (disch:=omega) only [go_sem,seval];refine cD ?_ ?_<;>intro h2<;>simp (disch:=omega) only [Sh.out h2,go_sem,seval]
   ·have:nth l k=v:=by rw [XL];first | omega | (simp at h2;omega)
    have hm:v∈l:=this ▸ Zu hk2;simp [hm]
   ·have: ¬nth l k=v:=by rw [XL];first | omega | (simp at h2;omega)
    exact ⟨k+1,⟨Za,Zr.2 ⟨hno,this⟩⟩,Za,wk⟩
  ·have hkl:k=l.length:=Za
   subst hkl
   have hm:v ∉ l:=fun hm=>by
    obtain ⟨j,hj,e⟩:=ZU.1 hm;exact hno j hj (by rw [Zi hj];exact e)
   simp [hm]
theorem Ey (l:List Itm) (c:Bool) (i:Nat) (hi:i<l.length) (hl:l.length<=1048576):PC 47 [.p (.list c (l.map Xn)),.p (.int .i64 i)] (.list false ((l.eraseIdx i).map Xn)):=by
 refine ACalls.frozen (S:=2) (n:=(l.eraseIdx i).length) Zb ?_
 suffices hh:ACalls Tryz.prog 47 [.p (.list c (l.map Xn)),.p (.int .i64 i)] [] fun y H'=> ∃m:List Itm,m=l.eraseIdx i/\y= .sl 0 0 m.length m.length/\H'= [.elems 2 (m.map Xn)] by
  refine hh.mono ?_;rintro x H' ⟨m,rfl,h1,h2⟩;exact ⟨h1,h2⟩
 have t1:(l.take i).length<=1048576:=by simp;omega
 have t2:(l.drop (i+1)).length<=1048576:=by simp;omega
 refine ZI [1] Tryz.func47 rfl Zju ?_;simp (disch:=omega) only [Tryz.f47,go_sem,seval];refine Wf (EP 2 rfl rfl ?_);simp (disch:=omega) only [go_sem,seval];refine ⟨_,_,cU 34 41 _ _ l.length 16 2 (.agg [.int .i64 0,.int .i64 0]) rfl Zg Zg Zg Zg Za (by rfl) (by rfl) Za Za (by simp (disch:=omega) only [go_sem,seval]) (by simp (disch:=omega) only [go_sem,seval]),?_⟩;simp (disch:=omega) only [go_sem,seval];refine Zh [] _ _ _ _ ?_;simp (disch:=omega) only [X1,go_sem,seval]
 refine ⟨l.eraseIdx i,rfl,0,?_⟩;rw [List.eraseIdx_eq_take_drop_succ];simp (disch:=omega) only [Xy,ZA,go_sem,seval]
theorem jO {l:List Itm} {i k:Nat} (h:k<l.length):(l.take (k+1)).eraseIdx i=(l.take k).eraseIdx i++if k=i then [] else [nth l k]:=by
 have hl:(l.take k).length=k:=by rw [Xd];omega
 rw [X3 h,<- Zi h];rcases Nat.lt_trichotomy k i with h1 | h1 | h1
 ·rw [if_neg Za,List.eraseIdx_of_length_le (by simp;omega),List.eraseIdx_of_length_le Za]
 ·subst h1;rw [if_pos rfl,Yp,List.eraseIdx_append_of_length_le Za,List.eraseIdx_of_length_le (by omega:(l.take k).length<=k),hl];simp
 ·rw [if_neg Za,List.eraseIdx_append_of_lt_length Za]
theorem NM (l:List Itm) (c:Bool) (i:Nat) (hi:i<l.length) (hl:l.length<=1048576):PC 49 [.p (.list c (l.map Xn)),.p (.int .i64 i)] (.list false ((l.eraseIdx i).map Xn)):=by
 refine ACalls.frozen (S:=2) (n:=(l.eraseIdx i).length) Zb ?_
 suffices hh:ACalls Tryz.prog 49 [.p (.list c (l.map Xn)),.p (.int .i64 i)] [] fun y H'=> ∃m:List Itm,m=l.eraseIdx i/\y= .sl 0 0 m.length m.length/\H'= [.elems 2 (m.map Xn)] by
  refine hh.mono ?_;rintro x H' ⟨m,rfl,h1,h2⟩;exact ⟨h1,h2⟩
 refine ZI [2] Tryz.func49 rfl Zjw ?_;simp (disch:=omega) only [Tryz.f49,go_sem,seval];refine Zp (Weak.ofNil 5 2 (by simp (disch:=omega) only [go_sem,seval]) Zb (Weak.refl _ _ _)) ?_;refine Zh [] _ _ _ _ ?_;simp (disch:=omega) only [go_sem,seval];refine Zl [0,1] (fun q:Nat×List Itm=> [(5,.sl 0 0 q.2.length q.2.length),(6,.p (.int .i64 q.1))]) (fun q=> [.elems 2 (q.2.map Xn)]) (fun q=>q.1<=l.length/\q.2=(l.take q.1).eraseIdx i) (fun q=>l.length-q.1) (0,[]) ⟨Zb,Zb⟩ (Weak.mk ?_) ?_
 ·simp (disch:=omega) only [go_sem,seval]
 ·rintro ⟨k,m⟩ ⟨hk,hm⟩;simp only at hk hm
  have hml:m.length<=k:=by
   have h1:=List.length_eraseIdx_le (l.take k) i;rw [<- hm,Xd] at h1;omega
  have hs:k<l.length->_:=fun h=>jO (l:=l) (i:=i) (k:=k) h;simp (disch:=omega) only [go_sem,seval];refine cD ?_ ?_<;>intro h<;>simp (disch:=omega) only [Sh.out h,go_sem,seval]
  ·have hk2:k<l.length:=Za
   have hs:=hs hk2;refine cD ?_ ?_<;>intro h2<;>simp (disch:=omega) only [Sh.out h2,go_sem,seval]
   ·have h3: ¬k=i:=Za
    exact ⟨(k+1,m++ [nth l k]),⟨by simp only;omega,by simp only [hs,if_neg h3,hm]⟩,by simp only;omega,wk⟩
   ·have h3:k=i:=Za
    exact ⟨(k+1,m),⟨by simp only;omega,by simp only [hs,if_pos h3,hm,Yp]⟩,by simp only;omega,wk⟩
  ·have hkl:k=l.length:=Za
   subst hkl;rw [X1] at hm;exact ⟨m,hm,0,by simp (disch:=omega) only [go_sem,seval]⟩
theorem No {α:Type} [Inhabited α] {p:α->Bool} {l:List α} {k:Nat} (h:k<l.length):(l.take (k+1)).filter p=(l.take k).filter p++if p (nth l k)=true then [nth l k] else []:=by
 rw [X3 h,List.filter_append,<- Zi h]
 congr 1
 rw [E5]
 split<;>simp
theorem Ob (x:Inst) (l:List Itm):(DV x l).length<=(YF x 10).length:=E2 _ _
theorem Oc (x:Inst) (l:List Itm):Bj x (DV x l)=Ym x l:=by rw [Bj,if_pos (Gz x l)];rfl
theorem bX (x:Inst) (hx:InstOk x) (l:List Itm) (c:Bool) (hl:l.length<=1048576):PT 11 [.p (Zs x),.p (.list c (l.map Xn))] [.p (Zs (KI x l)),.p (.int .i64 (YW x l))]:=by
 have hs:=U3 hx;have hcap:=NG hx;have hrl:=UB hs;have zI:Zs zeroI= .agg [.list true [],.list true [],.list true [],.list true [],.list true [],.list true []]:=rfl;refine Ze [10] Tryz.func11 rfl Zi2 ?_;simp (disch:=omega) only [Tryz.f11,go_sem,seval];refine Z3 [10] [1,2,4,11,12] (fun k:Nat=> [(13,.p (.int .i64 k))]) (fun _=> [Zf x,Zf zeroI]) (fun k=>k<=l.length/\ ∀j,j<k->Yq x l j=0) (fun k=>l.length-k) 0 Zb (Weak.mk ?_) ?_
 ·simp (disch:=omega) only [Zf,zeroI,Zk,go_sem,seval]
 ·rintro k ⟨hk,hno⟩;simp (disch:=omega) only [Zf,zeroI,Zk,go_sem,seval];refine cD ?_ ?_<;>intro h<;>simp (disch:=omega) only [Sh.out h,go_sem,seval]
  ·have hk2:k<l.length:=Za
   refine (SJ x hs (nth l k)).use ?_;simp (disch:=omega) only [go_sem,seval];refine cD ?_ ?_<;>intro h2<;>simp (disch:=omega) only [Sh.out h2,zI,go_sem,seval]
   ·have h3:XI x (nth l k)=false:=by simpa using h2
    have e0:Yq x l k=7:=by rw [Yq,h3];rfl
    have e:YW x l=7:=by rw [U2 hk2 hno (by rw [e0];decide),e0]
    have r:KI x l=zeroI:=by rw [KI,e];rfl
    simp only [e,r,zeroI,Zk];exact we
   ·have h3:XI x (nth l k)=true:=by simpa using h2
    refine Xj ?_;simp (disch:=omega) only [go_sem,seval];refine Zo (Cf (l.take k) _ (nth l k) (by simp;omega)) ?_;simp (disch:=omega) only [go_sem,seval];refine cD ?_ ?_<;>intro h4<;>simp (disch:=omega) only [Sh.out h4,go_sem,seval]
    ·have e0:Yq x l k=6:=by rw [Yq,if_pos h3,if_pos h4]
     have e:YW x l=6:=by rw [U2 hk2 hno (by rw [e0];decide),e0]
     have r:KI x l=zeroI:=by rw [KI,e];rfl
     simp only [e,r,zeroI,Zk];exact we
    ·exact ⟨k+1,⟨Za,Zr.2 ⟨hno,WN.2 ⟨h3,h4⟩⟩⟩,Za,Weak.mk (by simp (disch:=omega) only [Zf,zeroI,Zk,go_sem,seval])⟩
  ·have hkl:k=l.length:=Za
   subst hkl;have e:YW x l=0:=Ck hno
   have r:KI x l=Ym x l:=by rw [KI,if_pos e]
   rw [e,r];have c1:=vG x hs hcap (DV x l) false (by have:=Ob x l;omega);rw [Oc,Gz] at c1;have ho: ∀m,m<=(YF x 10).length->((YF x 10).take m).filter (fun v=>decide (v ∉ l))=((YF x 10).take m).filter (fun v=>decide (v ∉ l)):=fun _ _=>rfl;have c2:=LM x hs;have hout:DV x l=(YF x 10).filter fun v=>decide (v ∉ l):=rfl;rw [hout] at c1;generalize YF x 10=R at c1 c2 hrl;generalize Ym x l=Y at c1;refine Zp (Weak.ofNil 8 2 (by simp (disch:=omega) only [go_sem,seval]) Zb (Weak.refl _ _ _)) ?_;refine Zh [16] _ _ _ _ ?_
   simp (disch:=omega) only [Zf,zeroI,Zk,go_sem,seval];refine (c2).use ?_;simp (disch:=omega) only [go_sem,seval];refine Z3 [16] [1,2,4,31,32] (fun q:Nat×List Itm=> [(8,.sl 2 0 q.2.length q.2.length),(33,.p (.int .i64 q.1))]) (fun q=> [Zf x,Zf zeroI,.elems 2 (q.2.map Xn)]) (fun q=>q.1<=R.length/\q.2=(R.take q.1).filter fun v=>decide (v ∉ l)) (fun q=>R.length-q.1) (0,[]) ⟨Zb,Zb⟩ (Weak.mk ?_) ?_
   ·simp (disch:=omega) only [Zf,zeroI,Zk,go_sem,seval]
   ·rintro ⟨k,m⟩ ⟨hk,hm⟩;simp only at hk hm
    have hml:m.length<=k:=by
     have h1:=E2 (fun v=>decide (v ∉ l)) (R.take k);rw [<- hm,Xd] at h1;omega
    simp (disch:=omega) only [Zf,zeroI,Zk,go_sem,seval];refine cD ?_ ?_<;>intro h5<;>simp (disch:=omega) only [Sh.out h5,go_sem,seval]
    ·have hk2:k<R.length:=Za
     have hsu:=No (p:=fun v=>decide (v ∉ l)) hk2;refine (Cf l c (nth R k) hl).use ?_;simp (disch:=omega) only [go_sem,seval];refine cD ?_ ?_<;>intro h6<;>simp (disch:=omega) only [Sh.out h6,go_sem,seval]
     ·exact ⟨(k+1,m++ [nth R k]),⟨by simp only;omega,by simp only [hsu,hm];rw [if_pos (by simpa using h6)]⟩,by simp only;omega,Weak.mk (by simp (disch:=omega) only [Zf,zeroI,Zk,go_sem,seval])⟩
     ·exact ⟨(k+1,m),⟨by simp only;omega,by simp only [hsu,hm];rw [if_neg (by simpa using h6),Yp]⟩,by simp only;omega,Weak.mk (by simp (disch:=omega) only [Zf,zeroI,Zk,go_sem,seval])⟩
    ·have hkl:k=R.length:=Za
     subst hkl;rw [X1] at hm;rw [<- hm] at c1;refine Zp (Weak.fz (o:=2) (by rfl)) ?_;refine Zh [] _ _ _ _ ?_;simp (disch:=omega) only [Zt,Zk,ZQ,ZG,Zf,zeroI,go_sem,seval];refine YU c1 ?_;simp (disch:=omega) only [Zf,zeroI,Zk,go_sem,seval];exact we
theorem RF (x:Inst) (hx:InstOk x) (l:List Itm) (c:Bool) (hl:l.length<=1048576):PT 15 [.p (Zs x),.p (.list c (l.map Xn))] [.p (Zs (KI x l)),.p (.int .i64 (YW x l))]:=by
 have hs:=U3 hx;have hcap:=NG hx;have hrl:=UB hs;have zI:Zs zeroI= .agg [.list true [],.list true [],.list true [],.list true [],.list true [],.list true []]:=rfl;refine Ze [9] Tryz.func15 rfl Zi5 ?_;simp (disch:=omega) only [Tryz.f15,go_sem,seval];refine Z3 [9] [1,2,4] (fun k:Nat=> [(6,.p (.int .i64 k))]) (fun _=> [Zf x,Zf zeroI]) (fun k=>k<=l.length/\ ∀j,j<k->Yq x l j=0) (fun k=>l.length-k) 0 Zb (Weak.mk ?_) ?_
 ·simp (disch:=omega) only [Zf,zeroI,Zk,go_sem,seval]
 ·rintro k ⟨hk,hno⟩;simp (disch:=omega) only [Zf,zeroI,Zk,go_sem,seval];refine cD ?_ ?_<;>intro h<;>simp (disch:=omega) only [Sh.out h,go_sem,seval]
  ·have hk2:k<l.length:=Za
   refine Xj ?_;simp (disch:=omega) only [go_sem,seval];refine Zo (GL x hs (nth l k)) ?_;simp (disch:=omega) only [go_sem,seval];refine cD ?_ ?_<;>intro h2<;>simp (disch:=omega) only [Sh.out h2,zI,go_sem,seval]
   ·have h3:XI x (nth l k)=false:=by simpa using h2
    have e0:Yq x l k=7:=by rw [Yq,h3];rfl
    have e:YW x l=7:=by rw [U2 hk2 hno (by rw [e0];decide),e0]
    have r:KI x l=zeroI:=by rw [KI,e];rfl
    simp only [e,r,zeroI,Zk];exact we
   ·have h3:XI x (nth l k)=true:=by simpa using h2
    refine Xj ?_;simp (disch:=omega) only [go_sem,seval];refine Zo (kX (l.take k) _ (nth l k) (by simp;omega)) ?_;simp (disch:=omega) only [go_sem,seval];refine cD ?_ ?_<;>intro h4<;>simp (disch:=omega) only [Sh.out h4,go_sem,seval]
    ·have e0:Yq x l k=6:=by rw [Yq,if_pos h3,if_pos h4]
     have e:YW x l=6:=by rw [U2 hk2 hno (by rw [e0];decide),e0]
     have r:KI x l=zeroI:=by rw [KI,e];rfl
     simp only [e,r,zeroI,Zk];exact we
    ·exact ⟨k+1,⟨Za,Zr.2 ⟨hno,WN.2 ⟨h3,h4⟩⟩⟩,Za,Weak.mk (by simp (disch:=omega) only [Zf,zeroI,Zk,go_sem,seval])⟩
  ·have hkl:k=l.length:=Za
   subst hkl;have e:YW x l=0:=Ck hno
   have r:KI x l=Ym x l:=by rw [KI,if_pos e]
   rw [e,r];have c1:=Mn x hs hcap (DV x l) false (by have:=Ob x l;omega);rw [Oc,Gz] at c1;have c2:=Ol x hs;have hout:DV x l=(YF x 10).filter fun v=>decide (v ∉ l):=rfl;rw [hout] at c1;generalize YF x 10=R at c1 c2 hrl;generalize Ym x l=Y at c1;refine Zp (Weak.ofNil 7 2 (by simp (disch:=omega) only [go_sem,seval]) Zb (Weak.refl _ _ _)) ?_;refine Zh [15] _ _ _ _ ?_;simp (disch:=omega) only [Zf,zeroI,Zk,go_sem,seval];refine (c2).use ?_;simp (disch:=omega) only [go_sem,seval];refine Z3 [15] [1,2,4,8] (fun q:Nat×List Itm=> [(7,.sl 2 0 q.2.length q.2.length),(9,.p (.int .i64 q.1))]) (fun q=> [Zf x,Zf zeroI,.elems 2 (q.2.map Xn)]) (fun q=>q.1<=R.length/\q.2=(R.take q.1).filter fun v=>decide (v ∉ l)) (fun q=>R.length-q.1) (0,[]) ⟨Zb,Zb⟩ (Weak.mk ?_) ?_
   ·simp (disch:=omega) only [Zf,zeroI,Zk,go_sem,seval]
   ·rintro ⟨k,m⟩ ⟨hk,hm⟩;simp only at hk hm
    have hml:m.length<=k:=by
     have h1:=E2 (fun v=>decide (v ∉ l)) (R.take k);rw [<- hm,Xd] at h1;omega
    simp (disch:=omega) only [Zf,zeroI,Zk,go_sem,seval];refine cD ?_ ?_<;>intro h5<;>simp (disch:=omega) only [Sh.out h5,go_sem,seval]
    ·have hk2:k<R.length:=Za
     have hsu:=No (p:=fun v=>decide (v ∉ l)) hk2;refine (kX l c (nth R k) hl).use ?_;simp (disch:=omega) only [go_sem,seval];refine cD ?_ ?_<;>intro h6<;>simp (disch:=omega) only [Sh.out h6,go_sem,seval]
     ·exact ⟨(k+1,m++ [nth R k]),⟨by simp only;omega,by simp only [hsu,hm];rw [if_pos (by simpa using h6)]⟩,by simp only;omega,Weak.mk (by simp (disch:=omega) only [Zf,zeroI,Zk,go_sem,seval])⟩
     ·exact ⟨(k+1,m),⟨by simp only;omega,by simp only [hsu,hm];rw [if_neg (by simpa using h6),Yp]⟩,by simp only;omega,Weak.mk (by simp (disch:=omega) only [Zf,zeroI,Zk,go_sem,seval])⟩
    ·have hkl:k=R.length:=Za
     subst hkl;rw [X1] at hm;rw [<- hm] at c1;refine Zp (Weak.fz (o:=2) (by rfl)) ?_;refine Zh [] _ _ _ _ ?_;simp (disch:=omega) only [Zt,Zk,ZQ,ZG,Zf,zeroI,go_sem,seval];refine YU c1 ?_;simp (disch:=omega) only [Zf,zeroI,Zk,go_sem,seval];exact we
theorem ZkX (x:Inst) (hx:InstOk x) (hn:x.orders.length<=4):ACalls Tryz.prog 43 [.p (Zs x)] [] fun y H'=> ∃p c e,(c=JO x/\e=Xm x)/\y= .tup [.p (J3 p),.p (.int .i64 c),.p (.int .i64 e)]/\H'= []:=by
 have hs:=U3 hx;refine (pE x hx hn (by have:=hs.be;omega) (by have:=hs.ap;omega)).mono fun y H' h=> ?_;obtain ⟨p,_,rfl,rfl⟩:=h;exact ⟨p,_,_,⟨rfl,rfl⟩,rfl,rfl⟩
theorem yQ (x:Inst) (hx:InstOk x) (hn:x.orders.length<=4):ACalls Tryz.prog 24 [.p (Zs x)] [] fun y H'=> ∃p c e,(c=JO x/\e=Xm x)/\y= .tup [.p (J3 p),.p (.int .i64 c),.p (.int .i64 e)]/\H'= []:=by
 have hs:=U3 hx;refine (pG x hx hn (by have:=hs.be;omega)).mono fun y H' h=> ?_;obtain ⟨p,_,rfl,rfl⟩:=h;exact ⟨p,_,_,⟨rfl,rfl⟩,rfl,rfl⟩
theorem Rm (x:Inst) (hx:InstOk x) (hn:x.orders.length<=4):PT 14 [.p (Zs x)] [.p (.bool (decide (Xm x=0))),.p (.int .i64 0)]:=by
 have c1:=ZkX x hx hn;have h:=Uk hx hn;generalize Xm x=e at c1 h;generalize JO x=c at c1;refine Ze [] Tryz.func14 rfl Zi4 ?_;simp (disch:=omega) only [Tryz.f14,go_sem,seval];refine G7 c1 fun p c' e' hR=> ?_;obtain ⟨rfl,rfl⟩:=hR;rcases h with rfl | rfl
 ·simp (disch:=omega) only [go_sem,seval];exact we
 ·simp (disch:=omega) only [go_sem,seval];exact we
theorem Rn (x:Inst) (hx:InstOk x) (hn:x.orders.length<=4):PT 52 [.p (Zs x)] [.p (.bool (decide (Xm x=0))),.p (.int .i64 0)]:=by
 have c1:=yQ x hx hn;have h:=Uk hx hn;generalize Xm x=e at c1 h;generalize JO x=c at c1;refine Ze [] Tryz.func52 rfl Zjz ?_;simp (disch:=omega) only [Tryz.f52,go_sem,seval];refine G7 c1 fun p c' e' hR=> ?_;obtain ⟨rfl,rfl⟩:=hR;rcases h with rfl | rfl
 ·simp (disch:=omega) only [go_sem,seval];exact we
 ·simp (disch:=omega) only [go_sem,seval];exact we
noncomputable def DB (x:Inst) (l:List Itm):Bool:=decide (YW x l=0)&&decide (Xm (Ym x l)=24)
noncomputable def DM (x:Inst) (l:List Itm):Bool:=decide (YW x l=0)&&decide (Xm (Ym x l)=0)
theorem Lq (x:Inst) (hx:InstOk x) (hn:x.orders.length<=4) (l:List Itm) (c:Bool) (hl:l.length<=1048576):PT 46 [.p (Zs x),.p (.list c (l.map Xn))] [.p (.bool (DB x l)),.p (.int .i64 (YW x l))]:=by
 have c1:=bX x hx l c hl;have c2:=Rm (Ym x l) (LN hx) (by rw [Gd];exact hn);have h:=JC hx hn l;refine Ze [] Tryz.func46 rfl Zjt ?_;simp (disch:=omega) only [Tryz.f46,go_sem,seval];refine YU c1 ?_;simp (disch:=omega) only [go_sem,seval]
 by_cases e0:YW x l=0
 ·have k:KI x l=Ym x l:=by rw [KI,if_pos e0]
  have b:DB x l=decide (Xm (Ym x l)=24):=by rw [DB,e0];rfl
  rw [k,e0,b];generalize Ym x l=Y at c2 h;generalize Xm Y=s at c2 h;simp (disch:=omega) only [go_sem,seval];refine YU c2 ?_;rcases h with rfl | rfl
  ·simp (disch:=omega) only [go_sem,seval];exact we
  ·simp (disch:=omega) only [go_sem,seval];exact we
 ·have b:DB x l=false:=by rw [DB,Vs e0];rfl
  rw [b];refine cD ?_ ?_<;>intro h1<;>simp (disch:=omega) only [Sh.out h1,go_sem,seval]
  ·exact we
  ·exact absurd (Z1.1 h1) e0
theorem P4 (x:Inst) (hx:InstOk x) (hn:x.orders.length<=4) (l:List Itm) (c:Bool) (hl:l.length<=1048576):PT 48 [.p (Zs x),.p (.list c (l.map Xn))] [.p (.bool (DM x l)),.p (.int .i64 (YW x l))]:=by
 have c1:=RF x hx l c hl;have c2:=Rn (Ym x l) (LN hx) (by rw [Gd];exact hn);have h:=JC hx hn l;refine Ze [] Tryz.func48 rfl Zjv ?_;simp (disch:=omega) only [Tryz.f48,go_sem,seval];refine YU c1 ?_;simp (disch:=omega) only [go_sem,seval]
 by_cases e0:YW x l=0
 ·have k:KI x l=Ym x l:=by rw [KI,if_pos e0]
  have b:DM x l=decide (Xm (Ym x l)=0):=by rw [DM,e0];rfl
  rw [k,e0,b];generalize Ym x l=Y at c2 h;generalize Xm Y=s at c2 h;simp (disch:=omega) only [go_sem,seval];refine YU c2 ?_;simp (disch:=omega) only [go_sem,seval];exact we
 ·have b:DM x l=false:=by rw [DM,Vs e0];rfl
  rw [b];refine cD ?_ ?_<;>intro h1<;>simp (disch:=omega) only [Sh.out h1,go_sem,seval]
  ·exact we
  ·exact absurd (Z1.1 h1) e0
theorem Im {x:Inst} {l:List Itm} {k:Nat} (h:k<l.length):JG x (l.length-k) l k=if Xm (Ym x (l.eraseIdx k))=24 then JG x ((l.eraseIdx k).length-k) (l.eraseIdx k) k else JG x (l.length-(k+1)) l (k+1):=by
 have hl:(l.eraseIdx k).length=l.length-1:=by rw [List.length_eraseIdx,if_pos h]
 rw [hl,show l.length-k=(l.length-(k+1))+1 by omega,JG,if_pos h,show l.length-1-k=l.length-(k+1) by omega]
theorem Il {x:Inst} {l:List Itm} :JG x (l.length-l.length) l l.length=l:=by rw [AU,JG]
theorem SA {l m:List Itm} (h:l.Sublist m) (k:Nat):(l.eraseIdx k).Sublist m:=(List.eraseIdx_sublist l k).trans h
theorem cH (x:Inst) (hx:InstOk x) (hn:x.orders.length<=4):PT 27 [.p (Zs x)] [.p (.list (decide (Xm x=0)) ((QI x).map Xn)),.p (.int .i64 (QH x))]:=by
 have c1:=Rm x hx hn;have c2:=LM x (U3 hx);have hrl:=UB (U3 hx);have h:=Uk hx hn;refine Ze [] Tryz.func27 rfl Zje ?_;simp (disch:=omega) only [Tryz.f27,go_sem,seval];refine YU c1 ?_;rcases h with h | h
 ·have e1:QI x= []:=by rw [QI,h];rfl
  have e2:QH x=9:=by rw [QH,h];rfl
  rw [e1,e2,h];simp (disch:=omega) only [go_sem,seval];exact we
 ·have e1:QI x=BH x:=by rw [QI,if_pos h]
  have e2:QH x=0:=by rw [QH,if_pos h]
  rw [e1,e2,h];simp (disch:=omega) only [go_sem,seval];refine (c2).use ?_;simp (disch:=omega) only [go_sem,seval];refine Zl [1] (fun q:Nat×List Itm=> [(6,.p (.list false (q.2.map Xn))),(7,.p (.int .i64 q.1))]) (fun _=> [Zf x]) (fun q=>q.1<=q.2.length/\q.2.Sublist (YF x 10)/\JG x (q.2.length-q.1) q.2 q.1=BH x) (fun q=>q.2.length-q.1) (0,YF x 10) ⟨Zb,List.Sublist.refl _,rfl⟩ (Weak.mk ?_) ?_
  ·simp (disch:=omega) only [Zf,go_sem,seval]
  ·rintro ⟨k,l⟩ ⟨hk,hsub,hm⟩;simp only at hk hsub hm;have hll:=hsub.length_le;simp (disch:=omega) only [Zf,go_sem,seval];refine cD ?_ ?_<;>intro h1<;>simp (disch:=omega) only [Sh.out h1,go_sem,seval]
   ·have hk2:k<l.length:=Za
    have hst:=Im (x:=x) hk2;rw [hm] at hst
    have hel:(l.eraseIdx k).length=l.length-1:=by rw [List.length_eraseIdx,if_pos hk2]
    have hes:=SA hsub k
    have hb:DB x (l.eraseIdx k)=decide (Xm (Ym x (l.eraseIdx k))=24):=by rw [DB,Ac hes];rfl
    refine (Ey l false k hk2 Za).use ?_;simp (disch:=omega) only [go_sem,seval];have c3:=Lq x hx hn (l.eraseIdx k) false Za;rw [Ac hes,hb] at c3;refine YU c3 ?_;simp (disch:=omega) only [go_sem,seval];refine cD ?_ ?_<;>intro h2<;>simp (disch:=omega) only [Sh.out h2,go_sem,seval]
    ·rw [if_pos h2] at hst;exact ⟨(k,l.eraseIdx k),⟨by simp only;omega,hes,hst.symm⟩,by simp only;omega,Weak.mk (by simp (disch:=omega) only [Zf,go_sem,seval])⟩
    ·rw [if_neg h2] at hst;exact ⟨(k+1,l),⟨by simp only;omega,hsub,hst.symm⟩,by simp only;omega,Weak.mk (by simp (disch:=omega) only [Zf,go_sem,seval])⟩
   ·have hkl:k=l.length:=Za
    subst hkl;rw [Il] at hm;rw [<- hm];exact we
theorem RG (x:Inst) (hx:InstOk x) (hn:x.orders.length<=4):PT 53 [.p (Zs x)] [.p (.list (decide (Xm x=0)) ((QI x).map Xn)),.p (.int .i64 (QH x))]:=by
 have c1:=Rn x hx hn;have c2:=Ol x (U3 hx);have hrl:=UB (U3 hx);have h:=Uk hx hn;refine Ze [] Tryz.func53 rfl ZjA ?_;simp (disch:=omega) only [Tryz.f53,go_sem,seval];refine YU c1 ?_;rcases h with h | h
 ·have e1:QI x= []:=by rw [QI,h];rfl
  have e2:QH x=9:=by rw [QH,h];rfl
  rw [e1,e2,h];simp (disch:=omega) only [go_sem,seval];exact we
 ·have e1:QI x=BH x:=by rw [QI,if_pos h]
  have e2:QH x=0:=by rw [QH,if_pos h]
  rw [e1,e2,h];simp (disch:=omega) only [go_sem,seval];refine (c2).use ?_;simp (disch:=omega) only [go_sem,seval];refine Zl [1] (fun q:Nat×List Itm=> [(6,.p (.list false (q.2.map Xn))),(7,.p (.int .i64 q.1))]) (fun _=> [Zf x]) (fun q=>q.1<=q.2.length/\q.2.Sublist (YF x 10)/\JG x (q.2.length-q.1) q.2 q.1=BH x) (fun q=>q.2.length-q.1) (0,YF x 10) ⟨Zb,List.Sublist.refl _,rfl⟩ (Weak.mk ?_) ?_
  ·simp (disch:=omega) only [Zf,go_sem,seval]
  ·rintro ⟨k,l⟩ ⟨hk,hsub,hm⟩;simp only at hk hsub hm;have hll:=hsub.length_le;simp (disch:=omega) only [Zf,go_sem,seval];refine cD ?_ ?_<;>intro h1<;>simp (disch:=omega) only [Sh.out h1,go_sem,seval]
   ·have hk2:k<l.length:=Za
    have hst:=Im (x:=x) hk2;rw [hm] at hst
    have hel:(l.eraseIdx k).length=l.length-1:=by rw [List.length_eraseIdx,if_pos hk2]
    have hes:=SA hsub k;have he:=JC hx hn (l.eraseIdx k)
    have hb:DM x (l.eraseIdx k)=decide (Xm (Ym x (l.eraseIdx k))=0):=by rw [DM,Ac hes];rfl
    refine (NM l false k hk2 Za).use ?_;simp (disch:=omega) only [go_sem,seval];have c3:=P4 x hx hn (l.eraseIdx k) false Za;rw [Ac hes,hb] at c3;refine YU c3 ?_;simp (disch:=omega) only [go_sem,seval];refine cD ?_ ?_<;>intro h2<;>simp (disch:=omega) only [Sh.out h2,go_sem,seval]
    ·rw [if_neg Za] at hst;exact ⟨(k+1,l),⟨by simp only;omega,hsub,hst.symm⟩,by simp only;omega,Weak.mk (by simp (disch:=omega) only [Zf,go_sem,seval])⟩
    ·rw [if_pos Za] at hst;exact ⟨(k,l.eraseIdx k),⟨by simp only;omega,hes,hst.symm⟩,by simp only;omega,Weak.mk (by simp (disch:=omega) only [Zf,go_sem,seval])⟩
   ·have hkl:k=l.length:=Za
    subst hkl;rw [Il] at hm;rw [<- hm];exact we
theorem M9 {x:Inst} {l:List Itm} (h0:YW x l=0) (h1:Xm (Ym x l)=24) {k:Nat} (hk:k<l.length) (h:Xm (Ym x (l.eraseIdx k))=24):KQ x l=33:=by
 rw [KQ,if_neg Za,if_neg Za,if_pos (Wl.2 ⟨k,ZO.2 hk,Ud h⟩)]
theorem Sl {x:Inst} {l:List Itm} (h0:YW x l=0) (h1:Xm (Ym x l)=24) (h: ∀k,k<l.length-> ¬Xm (Ym x (l.eraseIdx k))=24):KQ x l=0:=by
 rw [KQ,if_neg Za,if_neg Za,if_neg];intro hh;obtain ⟨k,hk,e⟩:=Wl.1 hh;exact h k (ZO.1 hk) (AK e)
theorem Zfw (x:Inst) (hx:InstOk x) (hn:x.orders.length<=4) (l:List Itm) (c:Bool) (hl:l.length<=1048576):PC 16 [.p (Zs x),.p (.list c (l.map Xn))] (.int .i64 (KQ x l)):=by
 have c1:=Lq x hx hn l c hl;refine Ze [] Tryz.func16 rfl Zi6 ?_;simp (disch:=omega) only [Tryz.f16,go_sem,seval]
 by_cases e0:YW x l=0
 ·have hb:DB x l=decide (Xm (Ym x l)=24):=by rw [DB,e0];rfl
  rw [e0,hb] at c1;refine YU c1 ?_;simp (disch:=omega) only [go_sem,seval];refine cD ?_ ?_<;>intro h1<;>simp (disch:=omega) only [Sh.out h1,go_sem,seval]
  ·have hv:KQ x l=9:=by rw [KQ,if_neg Za,if_pos h1]
   rw [hv];exact we
  ·have h1:Xm (Ym x l)=24:=Z1.1 h1;refine Zl [1,2,22] (fun k:Nat=> [(23,.p (.int .i64 k))]) (fun _=> [Zf x]) (fun k=>k<=l.length/\ ∀j,j<k-> ¬Xm (Ym x (l.eraseIdx j))=24) (fun k=>l.length-k) 0 ⟨Za,fun j hj=>Za⟩ (Weak.mk ?_) ?_
   ·simp (disch:=omega) only [Zf,go_sem,seval]
   ·rintro k ⟨hk,hno⟩;simp (disch:=omega) only [Zf,go_sem,seval];refine cD ?_ ?_<;>intro h2<;>simp (disch:=omega) only [Sh.out h2,go_sem,seval]
    ·have hk2:k<l.length:=Za
     have c2:=Lq x hx hn (l.eraseIdx k) false (by have:=List.length_eraseIdx_le l k;omega)
     have hb:DB x (l.eraseIdx k)=decide (Xm (Ym x (l.eraseIdx k))=24):=by rw [DB,J4 e0];rfl
     rw [J4 e0,hb] at c2;refine Xj ?_;simp (disch:=omega) only [go_sem,seval];refine Zo (Ey l c k hk2 hl) ?_;simp (disch:=omega) only [go_sem,seval];refine Qd c2 ?_;simp (disch:=omega) only [go_sem,seval];refine cD ?_ ?_<;>intro h3<;>simp (disch:=omega) only [Sh.out h3,go_sem,seval]
     ·have hv:=M9 e0 h1 hk2 h3;rw [hv];exact we
     ·exact ⟨k+1,⟨Za,Zr.2 ⟨hno,h3⟩⟩,Za,Weak.mk (by simp (disch:=omega) only [Zf,go_sem,seval])⟩
    ·have hkl:k=l.length:=Za
     subst hkl;have hv:=Sl e0 h1 hno;rw [hv];exact we
 ·have b:DB x l=false:=by rw [DB,Vs e0];rfl
  have hv:KQ x l=YW x l:=by rw [KQ,if_pos e0]
  rw [b] at c1;rw [hv];refine YU c1 ?_;simp (disch:=omega) only [go_sem,seval];refine cD ?_ ?_<;>intro h1<;>simp (disch:=omega) only [Sh.out h1,go_sem,seval]
  ·exact we
  ·exact absurd (Z1.1 h1) e0
theorem Ry (x:Inst) (hx:InstOk x) (hn:x.orders.length<=4) (l:List Itm) (c:Bool) (hl:l.length<=1048576):PC 17 [.p (Zs x),.p (.list c (l.map Xn))] (.int .i64 (KQ x l)):=by
 have c1:=P4 x hx hn l c hl;refine Ze [] Tryz.func17 rfl Zi7 ?_;simp (disch:=omega) only [Tryz.f17,go_sem,seval]
 by_cases e0:YW x l=0
 ·have hb:DM x l=decide (Xm (Ym x l)=0):=by rw [DM,e0];rfl
  have he:=JC hx hn l;rw [e0,hb] at c1;refine YU c1 ?_;simp (disch:=omega) only [go_sem,seval];refine cD ?_ ?_<;>intro h1<;>simp (disch:=omega) only [Sh.out h1,go_sem,seval]
  ·have hv:KQ x l=9:=by rw [KQ,if_neg Za,if_pos Za]
   rw [hv];exact we
  ·have h1:Xm (Ym x l)=24:=Za
   refine Zl [1,2] (fun k:Nat=> [(7,.p (.int .i64 k))]) (fun _=> [Zf x]) (fun k=>k<=l.length/\ ∀j,j<k-> ¬Xm (Ym x (l.eraseIdx j))=24) (fun k=>l.length-k) 0 ⟨Za,fun j hj=>Za⟩ (Weak.mk ?_) ?_
   ·simp (disch:=omega) only [Zf,go_sem,seval]
   ·rintro k ⟨hk,hno⟩;simp (disch:=omega) only [Zf,go_sem,seval];refine cD ?_ ?_<;>intro h2<;>simp (disch:=omega) only [Sh.out h2,go_sem,seval]
    ·have hk2:k<l.length:=Za
     have he2:=JC hx hn (l.eraseIdx k);have c2:=P4 x hx hn (l.eraseIdx k) false (by have:=List.length_eraseIdx_le l k;omega)
     have hb:DM x (l.eraseIdx k)=decide (Xm (Ym x (l.eraseIdx k))=0):=by rw [DM,J4 e0];rfl
     rw [J4 e0,hb] at c2;refine Xj ?_;simp (disch:=omega) only [go_sem,seval];refine Zo (NM l c k hk2 hl) ?_;simp (disch:=omega) only [go_sem,seval];refine Qd c2 ?_;simp (disch:=omega) only [go_sem,seval];refine cD ?_ ?_<;>intro h3<;>simp (disch:=omega) only [Sh.out h3,go_sem,seval]
     ·have hv:=M9 e0 h1 hk2 Za;rw [hv];exact we
     ·exact ⟨k+1,⟨Za,Zr.2 ⟨hno,Za⟩⟩,Za,Weak.mk (by simp (disch:=omega) only [Zf,go_sem,seval])⟩
    ·have hkl:k=l.length:=Za
     subst hkl;have hv:=Sl e0 h1 hno;rw [hv];exact we
 ·have b:DM x l=false:=by rw [DM,Vs e0];rfl
  have hv:KQ x l=YW x l:=by rw [KQ,if_pos e0]
  rw [b] at c1;rw [hv];refine YU c1 ?_;simp (disch:=omega) only [go_sem,seval];refine cD ?_ ?_<;>intro h1<;>simp (disch:=omega) only [Sh.out h1,go_sem,seval]
  ·exact we
  ·exact absurd (Z1.1 h1) e0
def W3 (x:Inst) (i:Int):Int:=if i<0\/(x.orders.length:Int)<=i then 7 else if (nth x.orders i.toNat).off=true then 9 else 0
theorem AX {x:Inst} {i:Int} (h:W3 x i=0):0<=i/\i.toNat<x.orders.length/\(nth x.orders i.toNat).off=false:=by
 unfold W3 at h
 split at h
 ·simp at h
 ·split at h
  ·simp at h
  ·rename_i h1 h2;exact ⟨Za,Za,by simpa using h2⟩
def U6 (z x:Inst) (i:Int):Inst:=if W3 x i=0 then YX x i.toNat else z
theorem mK (x:Inst) (i:Int) (ho:x.orders.length<=1048576):PT 51 [.p (Zs x),.p (.int .i64 i)] [.p (Zs (U6 zeroI x i)),.p (.int .i64 (W3 x i))]:=by
 have zI:Zs zeroI= .agg [.list true [],.list true [],.list true [],.list true [],.list true [],.list true []]:=rfl;refine Ze [7] Tryz.func51 rfl Zjy ?_;simp (disch:=omega) only [Tryz.f51,go_sem,seval];refine gF ?_ ?_<;>intro h1<;>simp (disch:=omega) only [Sh.out h1,go_sem,seval]
 ·have e:W3 x i=7:=by rw [W3,if_pos Za]
  have v:U6 zeroI x i=zeroI:=by rw [U6,e];rfl
  rw [e,v];simp only [zeroI,Zk];exact we
 ·refine cD ?_ ?_<;>intro h2<;>simp (disch:=omega) only [Sh.out h2,go_sem,seval]
  ·have e:W3 x i=7:=by rw [W3,if_pos Za]
   have v:U6 zeroI x i=zeroI:=by rw [U6,e];rfl
   rw [e,v];simp only [zeroI,Zk];exact we
  ·have hi:i.toNat<x.orders.length:=Za
   have n1: ¬(i<0\/(x.orders.length:Int)<=i):=Za
   refine cD ?_ ?_<;>intro h3<;>simp (disch:=omega) only [Sh.out h3,go_sem,seval]
   ·have e:W3 x i=9:=by rw [W3,if_neg n1,if_pos h3]
    have v:U6 zeroI x i=zeroI:=by rw [U6,e];rfl
    rw [e,v];simp only [zeroI,Zk];exact we
   ·have e:W3 x i=0:=by rw [W3,if_neg n1,if_neg (by rw [h3];simp)]
    obtain ⟨os,hos⟩: ∃os,os=x.orders.set i.toNat { nth x.orders i.toNat with penalty:= -1 } :=⟨_,rfl⟩
    have v:U6 zeroI x i= { x with orders_c:=false,orders:=os } :=by rw [U6,if_pos e,YX,hos]
    have ZP:(x.orders.map eOrd).set i.toNat (eOrd { nth x.orders i.toNat with penalty:= -1 })=os.map eOrd:=by rw [hos,Vk]
    have hml:(x.orders.map eOrd).length=x.orders.length:=ZB ..;have hel:KH (x.orders.map eOrd) i.toNat=eOrd (nth x.orders i.toNat):=VJ hi;simp only [Sx] at ZP
    have hsl:os.length=x.orders.length:=by rw [hos];exact VO ..
    rw [e,v];refine (Bl x.orders x.orders_c ho).useF ?_;simp (disch:=omega) only [go_sem,seval];simp only [ZP];rw [<- hsl];refine Zp (Weak.fz (o:=2) (by rfl)) ?_;refine Zh [] _ _ _ _ ?_;simp (disch:=omega) only [Zt,Zk,ZQ,ZG,go_sem,seval];exact we
theorem Tq (x:Inst) (i:Int) (ho:x.orders.length<=1048576):PT 23 [.p (Zs x),.p (.int .i64 i)] [.p (Zs (U6 x x i)),.p (.int .i64 (W3 x i))]:=by
 refine Ze [6,8] Tryz.func23 rfl Zjc ?_;simp (disch:=omega) only [Tryz.f23,go_sem,seval];refine gF ?_ ?_<;>intro h1<;>simp (disch:=omega) only [Sh.out h1,go_sem,seval]
 ·have e:W3 x i=7:=by rw [W3,if_pos Za]
  have v:U6 x x i=x:=by rw [U6,e];rfl
  rw [e,v];exact we
 ·refine cD ?_ ?_<;>intro h2<;>simp (disch:=omega) only [Sh.out h2,go_sem,seval]
  ·have e:W3 x i=7:=by rw [W3,if_pos Za]
   have v:U6 x x i=x:=by rw [U6,e];rfl
   rw [e,v];exact we
  ·have hi:i.toNat<x.orders.length:=Za
   have n1: ¬(i<0\/(x.orders.length:Int)<=i):=Za
   refine cD ?_ ?_<;>intro h3<;>simp (disch:=omega) only [Sh.out h3,go_sem,seval]
   ·have e:W3 x i=9:=by rw [W3,if_neg n1,if_pos h3]
    have v:U6 x x i=x:=by rw [U6,e];rfl
    rw [e,v];exact we
   ·have e:W3 x i=0:=by rw [W3,if_neg n1,if_neg (by rw [h3];simp)]
    obtain ⟨os,hos⟩: ∃os,os=x.orders.set i.toNat { nth x.orders i.toNat with penalty:= -1 } :=⟨_,rfl⟩
    have v:U6 x x i= { x with orders_c:=false,orders:=os } :=by rw [U6,if_pos e,YX,hos]
    have ZP:(x.orders.map eOrd).set i.toNat (eOrd { nth x.orders i.toNat with penalty:= -1 })=os.map eOrd:=by rw [hos,Vk]
    have hml:(x.orders.map eOrd).length=x.orders.length:=ZB ..;have hel:KH (x.orders.map eOrd) i.toNat=eOrd (nth x.orders i.toNat):=VJ hi;simp only [Sx] at ZP
    have hsl:os.length=x.orders.length:=by rw [hos];exact VO ..
    rw [e,v];refine Zp (Weak.ofNil 6 16 (by simp (disch:=omega) only [go_sem,seval]) Zb (Weak.refl _ _ _)) ?_;refine Zh [8] _ _ _ _ ?_;simp (disch:=omega) only [go_sem,seval];simp only [ZP];rw [<- hsl];refine Zp (Weak.fz (o:=2) (by rfl)) ?_;refine Zh [] _ _ _ _ ?_;simp (disch:=omega) only [Zt,Zk,ZQ,ZG,go_sem,seval];exact we
noncomputable def Ap (x:Inst) (i:Int):List Itm:=if W3 x i=0 then QI (YX x i.toNat) else []
noncomputable def Dq (x:Inst) (i:Int):Int:=if W3 x i=0 then QH (YX x i.toNat) else W3 x i
noncomputable def Eh (x:Inst) (i:Int):Bool:=decide (W3 x i≠0)||decide (Xm (YX x i.toNat)=0)
theorem Fa {x:Inst} {i:Nat} :(YX x i).orders.length=x.orders.length:=VO ..
theorem yS (x:Inst) (hx:InstOk x) (hn:x.orders.length<=4) (i:Int):PT 20 [.p (Zs x),.p (.int .i64 i)] [.p (.list (Eh x i) ((Ap x i).map Xn)),.p (.int .i64 (Dq x i))]:=by
 have c1:=mK x i Za;refine Ze [] Tryz.func20 rfl xW ?_;simp (disch:=omega) only [Tryz.f20,go_sem,seval];refine YU c1 ?_;simp (disch:=omega) only [go_sem,seval]
 by_cases e0:W3 x i=0
 ·obtain ⟨h1,h2,h3⟩:=AX e0;have hy:=LY hx h2
  have hyn:(YX x i.toNat).orders.length<=4:=by rw [Fa];exact hn
  have c2:=Rm _ hy hyn;have c3:=cH _ hy hyn;have he:=Uk hy hyn
  have v1:U6 zeroI x i=YX x i.toNat:=by rw [U6,if_pos e0]
  have v2:Ap x i=QI (YX x i.toNat):=by rw [Ap,if_pos e0]
  have v3:Dq x i=QH (YX x i.toNat):=by rw [Dq,if_pos e0]
  have v4:Eh x i=decide (Xm (YX x i.toNat)=0):=by rw [Eh,e0];rfl
  rw [v1,v2,v3,v4,e0];generalize YX x i.toNat=Y at c2 c3 he;simp (disch:=omega) only [go_sem,seval];refine YU c2 ?_;rcases he with h | h
  ·have e1:QI Y= []:=by rw [QI,h];rfl
   have e2:QH Y=9:=by rw [QH,h];rfl
   rw [e1,e2,h];simp (disch:=omega) only [go_sem,seval];exact we
  ·rw [h] at c3 ⊢;simp (disch:=omega) only [go_sem,seval];refine YU c3 ?_;simp (disch:=omega) only [go_sem,seval];exact we
 ·have v2:Ap x i= []:=by rw [Ap,if_neg e0]
  have v3:Dq x i=W3 x i:=by rw [Dq,if_neg e0]
  have v4:Eh x i=true:=by rw [Eh,Ud e0];rfl
  rw [v2,v3,v4];refine cD ?_ ?_<;>intro h1<;>simp (disch:=omega) only [Sh.out h1,go_sem,seval]
  ·exact we
  ·exact absurd (Z1.1 h1) e0
theorem Zd4 (x:Inst) (hx:InstOk x) (hn:x.orders.length<=4) (i:Int):PT 21 [.p (Zs x),.p (.int .i64 i)] [.p (.list (Eh x i) ((Ap x i).map Xn)),.p (.int .i64 (Dq x i))]:=by
 have c1:=Tq x i Za;refine Ze [] Tryz.func21 rfl Zja ?_;simp (disch:=omega) only [Tryz.f21,go_sem,seval];refine YU c1 ?_;simp (disch:=omega) only [go_sem,seval]
 by_cases e0:W3 x i=0
 ·obtain ⟨h1,h2,h3⟩:=AX e0;have hy:=LY hx h2
  have hyn:(YX x i.toNat).orders.length<=4:=by rw [Fa];exact hn
  have c2:=Rn _ hy hyn;have c3:=RG _ hy hyn;have he:=Uk hy hyn
  have v1:U6 x x i=YX x i.toNat:=by rw [U6,if_pos e0]
  have v2:Ap x i=QI (YX x i.toNat):=by rw [Ap,if_pos e0]
  have v3:Dq x i=QH (YX x i.toNat):=by rw [Dq,if_pos e0]
  have v4:Eh x i=decide (Xm (YX x i.toNat)=0):=by rw [Eh,e0];rfl
  rw [v1,v2,v3,v4,e0];generalize YX x i.toNat=Y at c2 c3 he;simp (disch:=omega) only [go_sem,seval];refine YU c2 ?_;rcases he with h | h
  ·have e1:QI Y= []:=by rw [QI,h];rfl
   have e2:QH Y=9:=by rw [QH,h];rfl
   rw [e1,e2,h];simp (disch:=omega) only [go_sem,seval];exact we
  ·rw [h] at c3 ⊢;simp (disch:=omega) only [go_sem,seval];refine YU c3 ?_;simp (disch:=omega) only [go_sem,seval];exact we
 ·have v2:Ap x i= []:=by rw [Ap,if_neg e0]
  have v3:Dq x i=W3 x i:=by rw [Dq,if_neg e0]
  have v4:Eh x i=true:=by rw [Eh,Ud e0];rfl
  rw [v2,v3,v4];refine cD ?_ ?_<;>intro h1<;>simp (disch:=omega) only [Sh.out h1,go_sem,seval]
  ·exact we
  ·exact absurd (Z1.1 h1) e0
theorem bQ (a b:List Itm) (c d:Bool) (ha:a.length<=1048576) (hb:b.length<=1048576):PC 22 [.p (.list c (a.map Xn)),.p (.list d (b.map Xn))] (.bool (decide (a=b))):=by
 refine Zc Tryz.func22 rfl Zjb ?_;simp (disch:=omega) only [Tryz.f22,go_sem,seval];refine cD ?_ ?_<;>intro h<;>simp (disch:=omega) only [Sh.out h,go_sem,seval]
 ·have: ¬a=b:=fun e=>h (by rw [e]);simp [this]
 ·have hab:a.length=b.length:=Za
  refine Zl [0,1] (fun k:Nat=> [(5,.p (.int .i64 k))]) (fun _=> []) (fun k=>k<=a.length/\ ∀j,j<k->nth a j=nth b j) (fun k=>a.length-k) 0 Zb (Weak.mk ?_) ?_
  ·simp (disch:=omega) only [go_sem,seval]
  ·rintro k ⟨hk,hno⟩;simp (disch:=omega) only [go_sem,seval];refine cD ?_ ?_<;>intro h2<;>simp (disch:=omega) only [Sh.out h2,go_sem,seval]
   ·have hk2:k<a.length:=Za
    have hk3:k<b.length:=Za
    refine Xj ?_;simp (disch:=omega) only [go_sem,seval];refine cD ?_ ?_<;>intro h3<;>simp (disch:=omega) only [Sh.out h3,go_sem,seval]
    ·have h4: ¬nth a k=nth b k:=fun e=>by rw [XL] at e;exact h3 e
     have: ¬a=b:=fun e=>h4 (by rw [e]);simp [this]
    ·have h4:nth a k=nth b k:=by rw [XL];exact Z1.1 h3
     exact ⟨k+1,⟨Za,Zr.2 ⟨hno,h4⟩⟩,Za,wk⟩
   ·have hkl:k=a.length:=Za
    have:a=b:=Uc hab fun i h1 h2=>by
     have:=hno i Za;rwa [Zi h1,Zi h2] at this
    simp [this]
theorem xT (x:Inst) (n:Int): ∃b:Bool,b=true↔Fu x n:=by
 classical
 exact ⟨decide (Fu x n),Zb⟩
theorem Gk {x:Inst} : ∀(f:Nat) (l:List Itm) (k:Nat),(JG x f l k).length<=l.length
 | 0,l,k=>by rw [JG];exact Zy _
 | f+1,l,k=>by
  rw [JG]
  split
  ·split
   ·exact Kh (Gk f _ _) (List.length_eraseIdx_le l k)
   ·exact Gk f _ _
  ·exact Zy _
theorem NW {x:Inst} :(QI x).length<=(YF x 10).length:=by
 unfold QI
 split
 ·exact Gk _ _ _
 ·simp
theorem O1 {x:Inst} (hx:InstOk x) (hn:x.orders.length<=4) (i:Int):(Ap x i).length<=1048576:=by
 unfold Ap
 split
 ·rename_i h;have hy:=LY hx (AX h).2.1;have h1:=NW (x:=YX x i.toNat);have h2:=UB (U3 hy);omega
 ·simp
theorem ZfN (haw:PC 19 [] (.bool true)) (x:Inst) (hw:x.wf 1048576) (i:Int) :
  PC 5 [.p (Zs x),.p (.int .i64 i)] (.bool true):=by
 obtain ⟨b,hb⟩:=xT x 2;refine VE [] Tryz.func5 rfl Zos ?_;simp (disch:=omega) only [Tryz.f5,go_sem,seval];refine (HT x hw 2 b hb).use ?_;simp (disch:=omega) only [go_sem,seval]
 cases b with
 | false =>
  simp (disch:=omega) only [WS,go_sem,seval];refine (haw).use ?_;simp (disch:=omega) only [go_sem,seval]
 | true =>
  simp (disch:=omega) only [Yx,go_sem,seval];obtain ⟨h1,_,_,_,_,_,hx⟩:=hb.1 rfl
  have hn:x.orders.length<=4:=Za
  have hl:=O1 hx hn i;refine YU (yS x hx hn i) ?_;simp (disch:=omega) only [go_sem,seval];refine YU (Zd4 x hx hn i) ?_;simp (disch:=omega) only [eq_self,W2,go_sem,seval];refine (bQ (Ap x i) (Ap x i) (Eh x i) (Eh x i) hl hl).use ?_;simp (disch:=omega) only [go_sem,seval]
  try simp (disch:=omega) only [eq_self,W2,go_sem,seval]
  refine (haw).use ?_;simp (disch:=omega) only [go_sem,seval]
  try simp
theorem RC {x:Inst} (h:Fu x 2) (i:Nat):(YF (YX x i) 10).length<=60:=by
 obtain ⟨h1,h2,_,_,h5,h6,_⟩:=h;have h3:=D1 (YX x i) 10
 have h4:JH (YX x i)<=4:=by
  unfold JH;rw [Fa]
  show max (max (max x.orders.length x.types.length) x.apart.length) x.before.length<=4
  omega
 omega
theorem LR (haw:PC 19 [] (.bool true)) (x:Inst) (hw:x.wf 1048576) (i:Int) :
  PC 6 [.p (Zs x),.p (.int .i64 i)] (.bool true):=by
 obtain ⟨b,hb⟩:=xT x 2;refine VE [] Tryz.func6 rfl Zot ?_;simp (disch:=omega) only [Tryz.f6,go_sem,seval];refine (HT x hw 2 b hb).use ?_;simp (disch:=omega) only [go_sem,seval]
 cases b with
 | false =>
  simp (disch:=omega) only [WS,go_sem,seval];refine (haw).use ?_;simp (disch:=omega) only [go_sem,seval]
 | true =>
  simp (disch:=omega) only [Yx,go_sem,seval];have hfit:=hb.1 rfl;obtain ⟨h1,_,_,_,_,_,hx⟩:=hb.1 rfl
  have hn:x.orders.length<=4:=Za
  have hl:=O1 hx hn i;refine YU (yS x hx hn i) ?_;simp (disch:=omega) only [go_sem,seval];refine YU (Tq x i Za) ?_;simp (disch:=omega) only [go_sem,seval]
  by_cases e0:W3 x i=0
  ·obtain ⟨g1,g2,g3⟩:=AX e0;have hy:=LY hx g2
   have hyn:(YX x i.toNat).orders.length<=4:=by rw [Fa];exact hn
   have he:=Uk hy hyn;have hs:=yQ _ hy hyn;have hk:=Ry _ hy hyn (Ap x i) (Eh x i) hl
   have v1:U6 x x i=YX x i.toNat:=by rw [U6,if_pos e0]
   have v2:Ap x i=QI (YX x i.toNat):=by rw [Ap,if_pos e0]
   have v3:Dq x i=QH (YX x i.toNat):=by rw [Dq,if_pos e0]
   have hpos:Xm (YX x i.toNat)=24->0<(BH (YX x i.toNat)).length:=mD hy hyn;have hchk:Xm (YX x i.toNat)=24->KQ (YX x i.toNat) (BH (YX x i.toNat))=0:=mC hy hyn;have hlen:=NW (x:=YX x i.toNat);have h60:=RC hfit i.toNat;rw [v1,v3,e0];rw [v2] at hk ⊢
   generalize YX x i.toNat=Y at *
   rcases he with h | h
   ·have e2:QH Y=9:=by rw [QH,h];rfl
    rw [e2];rw [h] at hs;simp (disch:=omega) only [go_sem,seval];refine G7 hs fun p c' e' hR=> ?_;obtain ⟨_,rfl⟩:=hR;simp (disch:=omega) only [go_sem,seval];refine (haw).use ?_;simp (disch:=omega) only [go_sem,seval]
    try simp
   ·have e1:QI Y=BH Y:=by rw [QI,if_pos h]
    have e2:QH Y=0:=by rw [QH,if_pos h]
    rw [e1] at hk hlen ⊢;rw [hchk h] at hk;have hpos:=hpos h;rw [e2];simp (disch:=omega) only [go_sem,seval];refine gT ?_ ?_<;>intro q5<;>simp (disch:=omega) only [Sh.out q5,go_sem,seval]
    ·refine gT ?_ ?_<;>intro q6<;>simp (disch:=omega) only [Sh.out q6,go_sem,seval]
     ·refine (hk).use ?_;simp (disch:=omega) only [go_sem,seval];refine (haw).use ?_;simp (disch:=omega) only [go_sem,seval]
      try simp
     ·exact absurd q6 Za
    ·exact absurd q5 Za
  ·have v3:Dq x i=W3 x i:=by rw [Dq,if_neg e0]
   rw [v3];refine cD ?_ ?_<;>intro h2<;>simp (disch:=omega) only [Sh.out h2,go_sem,seval]
   ·try simp (disch:=omega) only [eq_self,W2,go_sem,seval]
    refine (haw).use ?_;simp (disch:=omega) only [go_sem,seval]
    try simp
   ·exact absurd (Z1.1 h2) e0
theorem lV (x:Inst) (hs:ISz x) (g:Itm->List UInt8) (l:List Itm) (c:Bool) (hl:l.length<=1000) (h1: ∀v∈l,XI x v=true->PC 83 [.p (Zs x),.p (Xn v)] (.str (g v)))
  (h0: ∀v∈l,XI x v=false->g v= [117,110,107,110,111,119,110]):PC 50 [.p (Zs x),.p (.list c (l.map Xn))] (.list false ((l.map g).map eS)):=by
 refine ACalls.frozen (S:=1) (n:=(l.map g).length) Zb ?_
 suffices hh:ACalls Tryz.prog 50 [.p (Zs x),.p (.list c (l.map Xn))] [] fun y H'=> ∃m:List (List UInt8),m=l.map g/\y= .sl 0 0 m.length m.length/\H'= [.elems 1 (m.map eS)] by
  refine hh.mono ?_;rintro x H' ⟨m,rfl,h1,h2⟩;exact ⟨h1,h2⟩
 refine ZI [2] Tryz.func50 rfl Zjx ?_;simp (disch:=omega) only [Tryz.f50,go_sem,seval];refine Zp (Weak.ofNil 5 1 (by simp (disch:=omega) only [go_sem,seval]) Zb (Weak.refl _ _ _)) ?_;refine Zh [] _ _ _ _ ?_;simp (disch:=omega) only [go_sem,seval];refine Zl [2,8,9] (fun q:Nat×List (List UInt8)=> [(5,.sl 1 0 q.2.length q.2.length),(10,.p (.int .i64 q.1))]) (fun q=> [Zf x,.elems 1 (q.2.map eS)]) (fun q=>q.1<=l.length/\q.2=(l.take q.1).map g) (fun q=>l.length-q.1) (0,[]) ⟨Zb,Zb⟩ (Weak.mk ?_) ?_
 ·simp (disch:=omega) only [Zf,go_sem,seval]
 ·rintro ⟨k,m⟩ ⟨hk,hm⟩;simp only at hk hm
  have hml:m.length=k:=by rw [hm];simp;omega
  have hh:=SJ x hs (nth l k);simp (disch:=omega) only [Zf,go_sem,seval];refine cD ?_ ?_<;>intro h<;>simp (disch:=omega) only [Sh.out h,go_sem,seval]
  ·have hk2:k<l.length:=Za
   have hmm:=Zu hk2
   have hsn:(l.take (k+1)).map g=m++ [g (nth l k)]:=by rw [hm,X3 hk2,Zi hk2,Xy,Zt,Zk]
   cases hv:XI x (nth l k) with
   | true =>
    rw [hv] at hh;refine (hh).use ?_;simp (disch:=omega) only [go_sem,seval];refine (h1 _ hmm hv).use ?_;simp (disch:=omega) only [go_sem,seval];exact ⟨(k+1,m++ [g (nth l k)]),⟨by simp only;omega,by simp only [hsn]⟩,by simp only;omega,Weak.mk (by simp (disch:=omega) only [Zf,go_sem,seval])⟩
   | false =>
    have e:=h0 _ hmm hv;rw [hv] at hh;refine (hh).use ?_;simp (disch:=omega) only [go_sem,seval];exact ⟨(k+1,m++ [g (nth l k)]),⟨by simp only;omega,by simp only [hsn]⟩,by simp only;omega,Weak.mk (by simp (disch:=omega) only [Zf,e,go_sem,seval])⟩
  ·have hkl:k=l.length:=Za
   subst hkl;exact ⟨m,by rw [hm,X1],1,by simp (disch:=omega) only [Zf,go_sem,seval]⟩
def exbX : Inst:= { net:= { places_c:=false,places:= [[72,117,98]],arcs_c:=true,arcs:= [] },types_c:=false,types:= [{ name:= [97],count:=1,src:=0,dst:=0,cap_c:=false,cap:= [5],cls:=100,drive:=50,opn:=0,rest:=0,skills:=0,fixed:=0,perMile:=0,perTick:=0,prof:=0 }],orders_c:=false,orders:= [{ name:= [109,105,108,107],load_c:=false,load:= [9],pick:=⟨-1,0,0,0⟩,drp:=⟨0,0,90,0⟩,skills:=0,penalty:=50,split:=1,last:= -1,now:= -1,off:=false }],apart_c:=true,apart:= [],before_c:=true,before:= [] }
theorem ZaN : ISz exbX:=⟨fun o hm=>by simp [exbX] at hm;subst hm;simp,by simp [exbX],by simp [exbX],by simp [exbX],by simp [exbX],by simp [exbX]⟩
def exbG (v:Itm):List UInt8:=if v.kind=3 then [99,97,112,97,99,105,116,121,32,111,102,32,97] else [117,110,107,110,111,119,110]
theorem jQ : PC 83 [.p (Zs exbX),.p (Xn ⟨3,0⟩)] (.str (exbG ⟨3,0⟩)):=by
 refine Zc Tryz.func83 rfl Zj1 ?_;obtain ⟨X,hX⟩: ∃X,X=exbX:=⟨_,rfl⟩;rw [<- hX]
 have t1:X.types.length=1:=by rw [hX];rfl
 have t2:(nth X.types 0).name= [97]:=by rw [hX];rfl
 have t3:(nth X.types 0).name.length=1:=by rw [t2];rfl
 clear hX;simp (disch:=first | omega | (simp only [ZE,ZJ,ZA,ZB,Xd,XG]<;>omega)) only [Tryz.f83,go_sem,seval];simp [exbG,t2]
theorem Zes (x:Inst) (i:Int) (ho:x.orders.length<=1048576) (e0:W3 x i≠0):PT 20 [.p (Zs x),.p (.int .i64 i)] [.p (.list true []),.p (.int .i64 (W3 x i))]:=by
 have c1:=mK x i ho;refine Ze [] Tryz.func20 rfl xW ?_;simp (disch:=omega) only [Tryz.f20,go_sem,seval];refine YU c1 ?_;simp (disch:=omega) only [go_sem,seval];refine cD ?_ ?_<;>intro h1<;>simp (disch:=omega) only [Sh.out h1,go_sem,seval]
 ·exact we
 ·exact absurd (Z1.1 h1) e0
theorem ZaM : PC 19 [] (.bool true):=by
 have c1:=Zes exbX 1 (by decide) (by decide);rw [show W3 exbX 1=7 from rfl] at c1
 have c2:=lV exbX ZaN exbG [⟨3,0⟩,⟨99,0⟩] false (by decide) (fun v hm hv=>by
  simp only [Z7,Vd,Wi] at hm;rcases hm with rfl | rfl
  ·exact jQ
  ·exact absurd hv (by decide)) (fun v hm hv=>by
  simp only [Z7,Vd,Wi] at hm;rcases hm with rfl | rfl
  ·exact absurd hv (by decide)
  ·rfl)
 obtain ⟨R,hR⟩: ∃R:List (List UInt8),R= [⟨3,0⟩,⟨99,0⟩].map exbG:=⟨_,rfl⟩;rw [<- hR] at c2
 have r1:R.length=2:=by rw [hR];rfl
 have r2:nth R 0= [99,97,112,97,99,105,116,121,32,111,102,32,97]:=by rw [hR];rfl
 have r3:nth R 1= [117,110,107,110,111,119,110]:=by rw [hR];rfl
 clear hR;refine VE [1,2,3,4] Tryz.func19 rfl Zi9 ?_;simp (disch:=omega) only [Tryz.f19,go_sem,seval];refine Wf (Lf 3 ?_);simp (disch:=omega) only [go_sem,seval];refine ⟨_,_,Weak.fz (o:=1) (by rfl),?_⟩;simp (disch:=omega) only [Zt,Zk,ZQ,ZG,ZR,ZH,go_sem,seval];refine Zh [2,3,4] _ _ _ _ ?_;simp (disch:=omega) only [go_sem,seval];refine Zp (Weak.fz (o:=0) (by rfl)) ?_;refine Zp (Weak.fz (o:=2) (by rfl)) ?_;refine Wf (Lf 1 ?_);simp (disch:=omega) only [Zt,Zk,ZQ,ZG,ZR,ZH,go_sem,seval]
 refine ⟨_,_,Weak.fz (o:=4) (by rfl),?_⟩;simp (disch:=omega) only [Zt,Zk,ZQ,ZG,ZR,ZH,go_sem,seval];refine Zh [3,4] _ _ _ _ ?_;simp (disch:=omega) only [go_sem,seval];refine Zp (Weak.fz (o:=5) (by rfl)) ?_;refine Zh [4] _ _ _ _ ?_;simp (disch:=omega) only [Zt,Zk,ZQ,ZG,go_sem,seval];refine YU c1 ?_;simp (disch:=omega) only [go_sem,seval];refine Wf (Lf 4 ?_);simp (disch:=omega) only [Zt,Zk,ZQ,ZG,ZR,ZH,go_sem,seval]
 refine ⟨_,_,Weak.fz (o:=6) (by rfl),?_⟩;simp (disch:=omega) only [Zt,Zk,ZQ,ZG,ZR,ZH,go_sem,seval];refine (c2).use ?_;simp (disch:=omega) only [go_sem,seval];refine Zh [] _ _ _ _ ?_;simp (disch:=omega) only [r1,r2,r3,go_sem,seval]
theorem Gf (x:Inst) (hw:x.wf 1048576) (i:Int):PC 6 [.p (Zs x),.p (.int .i64 i)] (.bool true):=LR ZaM x hw i
end Go.Proofs.YtjkkdmeebhjaiaaGreatDoor.K
