/- Declarations that the closing texts need, part 19: joined by tools/slim.py. -/
import Derived.Test.YtjkkdmeebhjaiaaGreatDoorZ18
import Derived.Shelf.Slices.In.SortNone
import Derived.Shelf.Sort.Plain
set_option linter.unusedVariables false
set_option linter.unusedSimpArgs false
namespace Go.Proofs.YtjkkdmeebhjaiaaGreatDoor.K
open Go Go.AM Go.Proofs
set_option maxRecDepth 8000
theorem MI {x:Inst} (hx:InstOk x) {c:Col} (h:c∈X3 x): ∃(k:Nat) (m:List Vis),k<x.types.length/\Gg x k m=true/\c=Y3 x k (Xx m) m:=by
 obtain ⟨k,S,h1,h2,h3,h4,rfl⟩:=B3.1 h;have hf:=XO hx
 have hopn:0<=(nth x.types ((k:Nat):Int).toNat).opn:=by
  simp_all [WY]
 unfold V0 at h4 ⊢
 split at h4
 ·rename_i hc;rw [if_pos hc];have hS:S / pw x.orders.length=0:=QJ h3;have ha:Alw x S:=(QG (by have:=hf.len;omega) hS hf.val).1 hc.1;rw [Ps hx Za hS ha hopn] at hc ⊢;rcases D8 _ _ hc.2 with ⟨e,_⟩ | ⟨m,m1,m2,m3⟩
  ·cases e
  ·have m3:(B9 x (k:Int) S (WK,false)).1=_:=m3;simp only [Dq,Zw,Zq] at m2;have hr:RightV x m:=WO (r:=JO (k:Int) m) (Qu m2.2.2);have e:=m2.1;rw [hr.ord hf] at e
   grind
 ·simp at h4
theorem tY {α β:Type} [Inhabited α] [Inhabited β] {f:α->β} {l:List α} {i:Nat} (h:i<l.length):nth (l.map f) i=f (nth l i):=by
 grind [Zi]
set_option maxHeartbeats 2000000
def P0 (f:Nat->Nat) (z:Int):Int:=if 0<=z then (f z.toNat:Nat) else z
theorem SR {f:Nat->Nat} {z:Int} :0<=P0 f z↔0<=z:=by unfold P0;split<;>omega
theorem BH {f:Nat->Nat} {a:List Int} {i:Nat} (h:i<a.length):nth (a.map (P0 f)) i=P0 f (nth a i):=tY h
structure Eas (x y:Inst) (l m:List Col) (f:Nat->Nat):Prop where
 len:y.orders.length=x.orders.length
 off: ∀k,k<x.orders.length->(nth y.orders k).off=(nth x.orders k).off
 col: ∀j,j<l.length->f j<m.length/\(nth m (f j)).typ=(nth l j).typ/\(nth m (f j)).set=(nth l j).set/\(nth m (f j)).price<=(nth l j).price
 cnt: ∀j,j<l.length->(nth x.types (nth l j).typ.toNat).count<=(nth y.types (nth l j).typ.toNat).count
 skp: ∀k,k<x.orders.length->(nth x.orders k).off=false->0<=(nth x.orders k).penalty->0<=(nth y.orders k).penalty/\skR y k<=skR x k
section
variable {x y : Inst} {l m : List Col} {f : Nat -> Nat} (h : Eas x y l m f)
include h
theorem Sk {a:List Int} (ha: ∀i,i<a.length->nth a i<l.length) {T:Int} : ∀n,n<=a.length->usdI m (a.map (P0 f)) T n<=usdI l a T n
 | 0,_=>ZD _
 | n+1,hn=>by
  have ih:=Sk ha (T:=T) n Za;rw [usdI,usdI]
  have hp:Aj m (a.map (P0 f)) T n=true->Aj l a T n=true:=by
   unfold Aj;rw [BH (show n<a.length by omega)];simp only [Zw,Zq];rintro ⟨h1,h2,h3⟩;have h0:=SR.1 h1;have hj:=h.col (nth a n).toNat (by have:=ha n Za;omega)
   have e:(P0 f (nth a n)).toNat=f (nth a n).toNat:=by unfold P0;rw [if_pos h0];omega
   rw [e,hj.2.1] at h2;refine ⟨h0,h2,?_⟩;rw [Co] at h3 ⊢;intro t ht he;refine h3 t ht ?_;rw [BH Za,BH Za,he]
  split
  ·rename_i c;rw [if_pos (hp c)];omega
  ·split<;>omega
theorem sM {a:List Int} {j:Nat} (hj:j<l.length):(Vv (nth l j).set.toNat a j).map (P0 f)=Vv (nth m (f j)).set.toNat (a.map (P0 f)) (f j:Nat):=by
 refine UK (by simp [Vv]) fun i h1 h2=> ?_
 have hi:i<a.length:=by simpa [Vv] using h1
 rw [<- Zi h1,<- Zi h2,BH (by simpa [Vv] using hi),XB hi,XB (by simpa using hi),(h.col j hj).2.2.1,BH hi]
 split
 ·unfold P0;rw [if_pos Za];simp
 ·rfl
theorem sL {a:List Int} {j k:Nat} (ha: ∀i,i<a.length->nth a i<l.length) (hj:j<l.length) (hc:KJ x l a j k=true):KJ y m (a.map (P0 f)) (f j) k=true:=by
 obtain ⟨c1,c2,c3,_⟩:=h.col j hj;unfold KJ at hc ⊢;simp only [Zw,Zq,Kk] at hc ⊢;obtain ⟨h1,h2,h3⟩:=hc;rw [c2,c3,ZG];refine ⟨h1,?_,fun i hi hb=> ?_⟩
 ·have u:=Sk h ha (T:=(nth l j).typ) a.length (ZD _);have:=h.cnt j hj;omega
 ·obtain ⟨g1,g2⟩:=h3 i hi hb;rw [BH hi];refine ⟨?_,g2⟩;unfold P0;rw [if_neg Za];exact g1
theorem EJ : ∀(d:Nat) (a:List Int) (p p':Int),d<=x.orders.length->a.length=x.orders.length->(∀i,i<a.length->nth a i<l.length)->p'<=p-> ∀q∈JN x l d a p,∃q'∈JN y m d (a.map (P0 f)) p',q'.2<=q.2
 | 0,a,p,p',_,_,_,hp,q,hq=>by
  simp only [JN,Xa,Vp,WG] at hq;subst hq;exact ⟨_,by simp only [JN];exact List.mem_cons_self ..,hp⟩
 | d+1,a,p,p',hd,hl,ha,hp,q,hq=>by
  have hk:x.orders.length-(d+1)<x.orders.length:=Za
  rw [JN] at hq;rw [JN,h.len,h.off _ hk,BH Za];simp only [SR]
  by_cases c:(nth x.orders (x.orders.length-(d+1))).off=true\/0<=nth a (x.orders.length-(d+1))
  ·rw [if_pos c] at hq ⊢;exact EJ d a p p' Za hl ha hp q hq
  ·rw [if_neg c] at hq ⊢;rcases Xe.1 hq with hq | hq
   ·obtain ⟨j,hj,hq⟩:=X1.1 hq;have hj:=ZM.1 hj
    split at hq
    ·rename_i hc;obtain ⟨c1,c2,c3,c4⟩:=h.col j hj
     obtain ⟨q',h1,h2⟩:=EJ d (Vv (nth l j).set.toNat a j) (p+(nth l j).price) (p'+(nth m (f j)).price) Za (by rw [Uv];exact hl) (fun i hi=>by
      rw [Uv] at hi;rw [XB hi]
      split
      ·omega
      ·exact ha i hi) Za q hq
     rw [sM h hj] at h1;refine ⟨q',List.mem_append_left _ (X1.2 ⟨f j,ZM.2 c1,?_⟩),h2⟩;rw [if_pos (sL h ha hj hc)];exact h1
    ·simp at hq
   ·split at hq
    ·rename_i hc;obtain ⟨s1,s2⟩:=h.skp _ hk (by simpa using fun e=>c (.inl e)) hc;obtain ⟨q',h1,h2⟩:=EJ d a (p+skR x (x.orders.length-(d+1))) (p'+skR y (x.orders.length-(d+1))) Za hl ha Za q hq;refine ⟨q',List.mem_append_right _ ?_,h2⟩;rw [if_pos s1];exact h1
    ·simp at hq
end
theorem IJ {l:List Col} : ∀(L:List (List Int×Int)) (b:Chc),(b.found=true->(L.foldl (YZ l) b).found=true/\(L.foldl (YZ l) b).price<=b.price)/\(∀q∈L,(L.foldl (YZ l) b).found=true/\(L.foldl (YZ l) b).price<=q.2)/\((L.foldl (YZ l) b).found=true->L.foldl (YZ l) b=b\/ ∃q∈L,(L.foldl (YZ l) b).price=q.2)
 | [],b=>⟨fun h=>⟨h,YW _⟩,fun q hq=>by simp at hq,fun _=> .inl rfl⟩
 | q::L,b=>by
  rw [XT];obtain ⟨i1,i2,i3⟩:=IJ (l:=l) L (YZ l b q)
  have hf:(YZ l b q).found=true/\(YZ l b q).price<=q.2/\(b.found=true->(YZ l b q).price<=b.price)/\(YZ l b q=b\/(YZ l b q).price=q.2):=by
   unfold YZ
   split
   ·rename_i c;refine ⟨rfl,YW _,fun hb=> ?_,.inr rfl⟩
    show q.2<=b.price
    rcases c with c | c | c
    ·rw [hb] at c;cases c
    ·omega
    ·omega
   ·rename_i c
    have c1:b.found=true:=by
     cases hb:b.found with
     | true=>rfl
     | false=>exact absurd (.inl hb) c
    refine ⟨c1,?_,fun _=>YW _,.inl rfl⟩;exact Int.not_lt.1 fun g=>c (.inr (.inl g))
  obtain ⟨f1,f2,f3,f4⟩:=hf;obtain ⟨g1,g2⟩:=i1 f1;refine ⟨fun hb=>⟨g1,AP g2 (f3 hb)⟩,fun q' hq=> ?_,fun hfo=> ?_⟩
  ·rcases Xa.1 hq with rfl | hq
   ·exact ⟨g1,AP g2 f2⟩
   ·exact i2 q' hq
  ·rcases i3 hfo with e | ⟨q',hq,e⟩
   ·rcases f4 with f4 | f4
    ·exact .inl (e.trans f4)
    ·exact .inr ⟨q,Zb,by rw [e];exact f4⟩
   ·exact .inr ⟨q',Yq _ hq,e⟩
noncomputable def Hc (x:Inst):List (List Int×Int):=JN x (X3 x) x.orders.length (List.replicate x.orders.length (-1)) 0
theorem A5 {x:Inst} (hx:InstOk x) (hn:x.orders.length<=4):(XN x=24/\JI x=0/\Hc x= [])\/(XN x=0/\(∃q∈Hc x,JI x=q.2)/\ ∀q∈Hc x,JI x<=q.2):=by
 obtain ⟨hl,_⟩:=EG hn (wO hx);have hr:=cZ hx hn;obtain ⟨u1,u2,u3⟩:=IJ (l:=X3 x) (Hc x) zCh;have ea:Eu x (X3 x)=(Hc x).foldl (YZ (X3 x)) zCh:=rfl;rw [<- ea] at u1 u2 u3;obtain ⟨b,hb,h1,h2⟩:=Mk x;rcases hb with ⟨k1,_⟩ | ⟨_,⟨c,kc,k2⟩,_⟩ | ⟨_,_,k3⟩
 ·omega
 ·rw [hr c kc] at k2;cases k2
 ·rcases k3 with ⟨k4,rfl,k5⟩ | ⟨k4,rfl,k5⟩
  ·refine .inl ⟨k5,(h1 (by rw [k5];decide)).2,?_⟩
   cases hc:Hc x with
   | nil=>rfl
   | cons q L =>
    have:=(u2 q (by rw [hc];simp)).1;rw [k4] at this;cases this
  ·have e:=(h2 k5).1;have e:JI x=(Eu x (X3 x)).price:=e;refine .inr ⟨k5,?_,fun q hq=>by rw [e];exact (u2 q hq).2⟩;rcases u3 k4 with g | ⟨q,hq,g⟩
   ·rw [g] at k4;cases k4
   ·exact ⟨q,hq,by rw [e];exact g⟩
theorem Tm {x y:Inst} {f:Nat->Nat} (hx:InstOk x) (hy:InstOk y) (hn:x.orders.length<=4) (h:Eas x y (X3 x) (X3 y) f) (h0:XN x=0):XN y=0/\JI y<=JI x:=by
 rcases A5 hx hn with ⟨g,_⟩ | ⟨_,⟨q,hq,e⟩,_⟩
 ·omega
 ·obtain ⟨q',h1,h2⟩:=EJ h x.orders.length (List.replicate x.orders.length (-1)) 0 0 (ZD _) Zb (fun i hi=>by
   rw [E3 (by simpa using hi)];omega) (YW _) q hq
  have em:(List.replicate x.orders.length (-1:Int)).map (P0 f)=List.replicate y.orders.length (-1):=by
   rw [AE,h.len];rfl
  rw [em] at h1
  have h1:q'∈Hc y:=by unfold Hc;rw [h.len] at h1 ⊢;exact h1
  rcases A5 hy (by rw [h.len];exact hn) with ⟨_,_,g⟩ | ⟨g,_,g2⟩
  ·rw [g] at h1;simp at h1
  ·refine ⟨g,?_⟩;have:=g2 q' h1;omega
theorem A6 {x:Inst} (hx:InstOk x) (hn:x.orders.length<=4):XN x=0\/XN x=24:=by
 rcases A5 hx hn with h | h
 ·exact .inr h.1
 ·exact .inl h.1
theorem Sc {x y:Inst} (hx:InstOk x) (hy:InstOk y) (ht:y.types.length=x.types.length) (hp: ∀(k:Nat) (m:List Vis),k<x.types.length->(YR x (JO k m)).2=0->(YR y (JO k m)).2=0/\(YR y (JO k m)).1<=(YR x (JO k m)).1) :
  ∃f:Nat->Nat,∀j,j<(X3 x).length->(∃k:Nat,k<x.types.length/\(nth (X3 x) j).typ=(k:Int))/\f j<(X3 y).length/\(nth (X3 y) (f j)).typ=(nth (X3 x) j).typ/\(nth (X3 y) (f j)).set=(nth (X3 x) j).set/\(nth (X3 y) (f j)).price<=(nth (X3 x) j).price:=by
 have H: ∀j,j<(X3 x).length-> ∃i,(∃k:Nat,k<x.types.length/\(nth (X3 x) j).typ=(k:Int))/\i<(X3 y).length/\(nth (X3 y) i).typ=(nth (X3 x) j).typ/\(nth (X3 y) i).set=(nth (X3 x) j).set/\(nth (X3 y) i).price<=(nth (X3 x) j).price:=fun j hj=>by
  obtain ⟨k,m,h1,h2,h3⟩:=MI hx (Zt hj);have h4:(YR x (JO (k:Int) m)).2=0:=AH h2;obtain ⟨h5,h6⟩:=hp k m h1 h4;obtain ⟨i,i1,i2,i3,i4⟩:=iO hy h5 ⟨by show (0:Int)<=(k:Int);omega,by show (k:Int)<_;omega⟩ rfl rfl;rw [h3];exact ⟨i,⟨k,h1,rfl⟩,i1,i2,i3,AP i4 h6⟩
 classical
 exact ⟨fun j=>if g:j<(X3 x).length then Classical.choose (H j g) else 0,fun j g=>by
  simp only [dif_pos g];exact Classical.choose_spec (H j g)⟩
theorem F4 {x:Inst} {l:List Col} (h: ∀k,k<x.orders.length->(nth x.orders k).off=false->0<=(nth x.orders k).penalty): ∀(d:Nat) (a:List Int) (p:Int),d<=x.orders.length->JN x l d a p≠ []
 | 0,a,p,_=>by simp [JN]
 | d+1,a,p,hd=>by
  rw [JN]
  split
  ·exact F4 h d a p Za
  ·rename_i c;have:=h (x.orders.length-(d+1)) Za (by simpa using fun e=>c (.inl e));rw [if_pos this];intro e;exact F4 h d a _ Za (VN.1 e).2
theorem oT {x:Inst} (hx:InstOk x) (hn:x.orders.length<=4) (h: ∀k,k<x.orders.length->(nth x.orders k).off=false->0<=(nth x.orders k).penalty):XN x=0:=by
 rcases A5 hx hn with ⟨_,_,g⟩ | g
 ·exact absurd g (F4 h _ _ _ (ZD _))
 ·exact g.1
theorem W0 {x:Inst} {l:List Itm} :(Zn x l).orders.length=x.orders.length/\(Zn x l).types.length=x.types.length:=⟨Yt _ _,Wa _ _⟩
theorem Tl {x y:Inst} {k:Nat} (hl:y.orders.length=x.orders.length) (ho:(nth y.orders k).off=(nth x.orders k).off) (hw:(nth y.orders k).now=(nth x.orders k).now) (hp:(nth y.orders k).penalty=(nth x.orders k).penalty):skR y k=skR x k:=by
 unfold skR unsF;rw [hl,XK,ho,hw,hp]
theorem oU {x:Inst} {l:List Itm} (hx:InstOk x) (hn:x.orders.length<=4) (hI: ∀v∈l,XW x v=true) (h:XN x=0):XN (Zn x l)=0/\JI (Zn x l)<=JI x:=by
 have hy:=Ks hx hI;obtain ⟨ol,tl⟩:=W0 (x:=x) (l:=l);have on: ∀i,i<x.orders.length->nth (Zn x l).orders i=YL (nth x.orders i) i l:=fun i h=>ZU h;have tn: ∀i,i<x.types.length->nth (Zn x l).types i=YH (nth x.types i) i l:=fun i h=>Yv h;obtain ⟨f,hf⟩:=Sc hx hy tl fun k m _ he=>Rc hx hy hI he;refine Tm hx hy hn (f:=f) ⟨ol,fun k hk=>by rw [on k hk];rfl,fun j hj=>(hf j hj).2,fun j hj=> ?_,fun k hk ho hp=> ?_⟩ h
 ·obtain ⟨⟨k,hk,e⟩,_⟩:=hf j hj;have hc:=hx.types.2 k hk;unfold Ux at hc;have hc:=hc.1.1.1.1.1.1.2;rw [A0] at hc;rw [e,XK,tn k hk];simp only [YH]
  split<;>omega
 ·have hn10:(⟨10,((k:Nat):Int)⟩:Itm) ∉ l:=fun hm=>by
   have h1:=hI _ hm;rw [KQ Zb] at h1;have h2:=h1.2;simp [Bi] at h2;omega
  have e1:(nth (Zn x l).orders k).penalty=(nth x.orders k).penalty:=by rw [on k hk];simp only [YL];rw [if_neg hn10]
  refine ⟨Za,?_⟩;rw [Tl ol (by rw [on k hk];rfl) (by rw [on k hk];rfl) e1];exact YW _
theorem oS {x:Inst} {L L':List Itm} (hx:InstOk x) (hn:x.orders.length<=4) (hI: ∀v∈L',XW x v=true) (hs: ∀v∈L,v∈L') (h:XN (Zn x L)=0):XN (Zn x L')=0/\JI (Zn x L')<=JI (Zn x L):=by
 rw [<- Mu hs hI];exact oU (Ks hx fun v hv=>hI v (hs v hv)) (by rw [W0.1];exact hn) (kF hI) h
structure PenE (x y:Inst):Prop where
 net:y.net=x.net
 typ:y.types=x.types
 ap:y.apart=x.apart
 be:y.before=x.before
 len:y.orders.length=x.orders.length
 ord: ∀j,∃q,nth y.orders j= { nth x.orders j with penalty:=q }
section
variable {x y : Inst} (h : PenE x y)
include h
theorem Ho (j:Nat):(nth y.orders j).pick=(nth x.orders j).pick/\(nth y.orders j).drp=(nth x.orders j).drp/\(nth y.orders j).off=(nth x.orders j).off/\(nth y.orders j).load=(nth x.orders j).load/\(nth y.orders j).skills=(nth x.orders j).skills/\(nth y.orders j).last=(nth x.orders j).last/\(nth y.orders j).now=(nth x.orders j).now/\(nth y.orders j).name=(nth x.orders j).name/\(nth y.orders j).split=(nth x.orders j).split:=by
 obtain ⟨q,e⟩:=h.ord j;rw [e];exact ⟨rfl,rfl,rfl,rfl,rfl,rfl,rfl,rfl,rfl⟩
theorem uZ (i:Nat):ZT y.orders i=ZT x.orders i:=by
 unfold ZT;obtain ⟨h1,h2,_⟩:=Ho h i;rw [h1,h2]
theorem ZdO (l:List Vis):Xf y l=Xf x l:=by
 have e1:WJ y=WJ x:=by funext v;unfold WJ;rw [h.len]
 have e2:(fun v:Vis=>(nth y.orders v.order.toNat).off)=fun v=>(nth x.orders v.order.toNat).off:=by funext v;exact (Ho h _).2.2.1
 have e3:pairB y.orders l=pairB x.orders l:=by funext v;unfold pairB;rw [uZ h]
 unfold Xf;rw [e1,e2,e3,h.ap,h.be]
theorem ZdM (l:List Vis) (n:Nat):Y2 y l n=Y2 x l n:=by
 unfold Y2;rw [h.typ];refine Wj fun j _=> ?_;unfold Dl;rw [h.len]
 congr 1
 refine Wj fun i _=> ?_;unfold ED;obtain ⟨h1,h2,_,h4,_⟩:=Ho h i;rw [h1,h4]
theorem uY (l:List Vis):ZI y l=ZI x l:=by
 unfold ZI;refine Wj fun v _=> ?_;unfold Xm;obtain ⟨h1,h2,_⟩:=Ho h v.order.toNat;rw [h1,h2]
theorem nD : nxtF y=nxtF x:=by
 funext t sp k L b
 unfold nxtF Wb;rw [h.net]
theorem uW : Xr y=Xr x:=by
 funext t sp k L b
 unfold Xr;rw [nD h]
theorem nE (t:Typ) (sp:List Stp): ∀(bs:List Bool) (k:Nat) (L:Lab),Xb y t sp k L bs=Xb x t sp k L bs
 | [],_,_=>by rw [Xb,Xb]
 | b::bs,k,L=>by
  rw [Xb,Xb,nD h]
  split
  ·exact nE t sp bs _ _
  ·rfl
theorem uV (t:Typ) (sp:List Stp) (st:Int) (r:List Bool):Yi y t sp st r=Yi x t sp st r:=by
 unfold Yi;rw [uW h]
 split
 ·rfl
 ·rw [nE h]
theorem uX (r:Rte):XI y r=XI x r:=by
 have e1:Zx y r=Zx x r:=by unfold Zx;rw [h.typ]
 have e2:(fun v:Vis=> !Yg (Zx x r) (nth y.orders v.order.toNat).skills)=fun v=> !Yg (Zx x r) (nth x.orders v.order.toNat).skills:=by funext v;rw [(Ho h _).2.2.2.2.1]
 have e3:VA y (Zx x r).cap r.visits=VA x (Zx x r).cap r.visits:=by
  unfold VA
  congr 1
  funext n
  rw [ZdM h]
 unfold XI;rw [e1,e2,e3,ZdO h,h.typ]
theorem N5 (r:Rte):Xn y r=Xn x r:=by
 unfold Xn;rw [uV h,uY h,show Zx y r=Zx x r by unfold Zx;rw [h.typ]]
theorem S5 (r:Rte):Xo y r=Xo x r:=by
 unfold Xo;rw [uX h,N5 h]
theorem nA (l:List Vis) (t:Int): ∀n,chgF y l t n=chgF x l t n
 | 0=>by rw [chgF,chgF]
 | n+1=>by
  have h1:=Ho h (nth l n).order.toNat;rw [chgF,chgF,nA l t n,h1.2.2.2.2.2.1,h1.2.2.2.2.2.2.1]
theorem nB (r:Rte):Wf y r=Wf x r:=by
 unfold Wf Db;rw [S5 h,N5 h,nA h,show Zx y r=Zx x r by unfold Zx;rw [h.typ]]
theorem ZdN (r:Rte):YR y r=YR x r:=by
 unfold YR;rw [S5 h,nB h]
theorem nF (hx:InstOk x) (hy:InstOk y) (hn:x.orders.length<=4) (hp: ∀j,j<x.orders.length->(nth x.orders j).off=false->(nth y.orders j).penalty=(nth x.orders j).penalty\/(nth y.orders j).penalty= -1) (he:XN y=0):XN x=0/\JI x<=JI y:=by
 obtain ⟨f,hf⟩:=Sc hy hx (by rw [h.typ]) fun k m _ hk=>by rw [ZdN h] at hk ⊢;exact ⟨hk,YW _⟩
 refine Tm hy hx (by rw [h.len];exact hn) (f:=f) ⟨h.len.symm,fun k _=>(Ho h k).2.2.1.symm,fun j hj=>(hf j hj).2,fun j hj=>by rw [h.typ];exact YW _,fun k hk ho hq=> ?_⟩ he;rw [h.len] at hk;rw [(Ho h k).2.2.1] at ho;have h1:=hp k hk ho
 have h2:(nth x.orders k).penalty=(nth y.orders k).penalty:=Za
 refine ⟨Za,?_⟩;rw [Tl h.len.symm (Ho h k).2.2.1.symm (Ho h k).2.2.2.2.2.2.1.symm h2];exact YW _
end
theorem nC (x:Inst):PenE x (Zn x [])/\PenE (Zn x []) x:=by
 rw [Dp];exact ⟨⟨rfl,rfl,rfl,rfl,rfl,fun j=>⟨(nth x.orders j).penalty,rfl⟩⟩,⟨rfl,rfl,rfl,rfl,rfl,fun j=>⟨(nth x.orders j).penalty,rfl⟩⟩⟩
theorem dQ {x:Inst} (hx:InstOk x) (hn:x.orders.length<=4):XN (Zn x [])=XN x:=by
 have hy:InstOk (Zn x []):=Ks hx Zb;obtain ⟨f1,f2⟩:=nC x
 have e: ∀j,(nth (Zn x []).orders j).penalty=(nth x.orders j).penalty:=fun j=>by rw [Dp]
 have a:=nF f1 hx hy hn (fun j _ _=> .inl (e j));have b:=nF f2 hy hx (by rw [W0.1];exact hn) (fun j _ _=> .inl (e j).symm);have c:=A6 hx hn;have d:=A6 hy (by rw [W0.1];exact hn);rcases c with c | c<;>rcases d with d | d
 ·omega
 ·have:=(b c).1;omega
 ·have:=(a d).1;omega
 ·omega
def KB (x:Inst) (l:List Itm):List Itm:=(Y8 x 10).filter fun v=>decide (v ∉ l)
def XF (x:Inst) (l:List Itm):Inst:=Zn x (KB x l)
def QD (x:Inst) (l:List Itm):Inst:=if YT x l=0 then XF x l else zeroI
theorem KW {x:Inst} {l:List Itm} {v:Itm} :v∈KB x l↔XW x v=true/\v ∉ l:=by
 rw [KB,Jf,Qq,Zq]
theorem Gl {x:Inst} {l:List Itm} : ∀v∈KB x l,XW x v=true:=fun _ h=>(KW.1 h).1
theorem Gx (x:Inst):(Y8 x 10).Nodup:=(K9 x 10).imp fun {a b} h e=>by
 subst e;rw [UX] at h;omega
theorem Gk (x:Inst) (l:List Itm):YT x (KB x l)=0:=FJ.2 ⟨Gl,(Gx x).filter _⟩
theorem N8 {x:Inst} {l:List Itm} (h:l.Sublist (Y8 x 10)):YT x l=0:=FJ.2 ⟨fun v hv=>Qq.1 (h.subset hv),(Gx x).sublist h⟩
theorem AA {x:Inst} {l:List Itm} (hx:InstOk x):InstOk (XF x l):=Ks hx Gl
theorem F1 {x:Inst} {l:List Itm} :(XF x l).orders.length=x.orders.length:=W0.1
theorem lA {x:Inst} :XF x (Y8 x 10)=Zn x []:=by
 have:KB x (Y8 x 10)= []:=by
  rw [KB,List.filter_eq_nil_iff];intro v hv;simp [hv]
 rw [XF,this]
theorem bE {x:Inst} {A B:List Itm} (hx:InstOk x) (hn:x.orders.length<=4) (h: ∀v∈A,v∈B) (he:XN (XF x B)=0):XN (XF x A)=0 :=
 (oS hx hn Gl (fun v hv=>by rw [KW] at hv ⊢;exact ⟨hv.1,fun g=>hv.2 (h v g)⟩) he).1
theorem lB {x:Inst} (hx:InstOk x) (hn:x.orders.length<=4):XN (XF x (Y8 x 10))=XN x:=by rw [lA];exact dQ hx hn
theorem Cv {x:Inst} (hx:InstOk x) (hn:x.orders.length<=4) (l:List Itm):XN (XF x l)=0\/XN (XF x l)=24:=A6 (AA hx) (by rw [F1];exact hn)
noncomputable def KA (x:Inst):Nat->List Itm->Nat->List Itm
 | 0,l,_=>l
 | f+1,l,k=>if k<l.length then (if XN (XF x (l.eraseIdx k))=24 then KA x f (l.eraseIdx k) k else KA x f l (k+1)) else l
noncomputable def lQ (x:Inst):List Itm:=KA x (Y8 x 10).length (Y8 x 10) 0
noncomputable def PY (x:Inst):List Itm:=if XN x=24 then lQ x else []
noncomputable def PX (x:Inst):Int:=if XN x=24 then 0 else 9
noncomputable def BB (x:Inst) (l:List Itm):Int :=
 if YT x l≠0 then YT x l else if XN (XF x l)≠24 then 9 else if ((List.range l.length).any fun i=>decide (XN (XF x (l.eraseIdx i))=24))=true then 33 else 0
theorem JZ {x:Inst} {l:List Itm} (h:YT x l=0) (i:Nat):YT x (l.eraseIdx i)=0:=by
 rw [FJ] at h ⊢;exact ⟨fun v hv=>h.1 v (List.mem_of_mem_eraseIdx hv),h.2.sublist (List.eraseIdx_sublist l i)⟩
set_option maxRecDepth 60000
set_option maxHeartbeats 8000000
theorem Cd (l:List Itm) (c:Bool) (v:Itm) (hl:l.length<=1048576):PC 30 [.p (.list c (l.map Xz)),.p (Xz v)] (.bool (decide (v∈l))):=by
 refine Zc Tryz.func30 rfl Zjf ?_;simp (disch:=omega) only [Tryz.f30,go_sem,seval];refine Zl [3,7,8] (fun k:Nat=> [(9,.p (.int .i64 k))]) (fun _=> [.cells [.p (.int .i64 v.kind),.p (.int .i64 v.a)]]) (fun k=>k<=l.length/\ ∀j,j<k-> ¬nth l j=v) (fun k=>l.length-k) 0 Zb (Weak.mk ?_) ?_
 ·simp (disch:=omega) only [go_sem,seval]
 ·rintro k ⟨hk,hno⟩;simp (disch:=omega) only [go_sem,seval];refine cD ?_ ?_<;>intro h<;>simp (disch:=omega) only [Sh.out h,go_sem,seval]
  ·have hk2:k<l.length:=Za
   refine cD ?_ ?_<;>intro h2<;>simp (disch:=omega) only [Sh.out h2,go_sem,seval]
   ·have:nth l k=v:=by rw [XX];first | omega | (simp at h2;omega)
    have hm:v∈l:=this ▸ Zt hk2;simp [hm]
   ·have: ¬nth l k=v:=by rw [XX];first | omega | (simp at h2;omega)
    exact ⟨k+1,⟨Za,Zr.2 ⟨hno,this⟩⟩,Za,wk⟩
  ·have hkl:k=l.length:=Za
   subst hkl
   have hm:v ∉ l:=fun hm=>by
    obtain ⟨j,hj,e⟩:=ZS.1 hm;exact hno j hj (by rw [Zi hj];exact e)
   simp [hm]
theorem kK (l:List Itm) (c:Bool) (v:Itm) (hl:l.length<=1048576):PC 44 [.p (.list c (l.map Xz)),.p (Xz v)] (.bool (decide (v∈l))):=by
 refine Zc Tryz.func44 rfl Zjt ?_;simp (disch:=omega) only [Tryz.f44,go_sem,seval];refine Zl [0,3] (fun k:Nat=> [(5,.p (.int .i64 k))]) (fun _=> [.cells [.p (.int .i64 v.kind),.p (.int .i64 v.a)]]) (fun k=>k<=l.length/\ ∀j,j<k-> ¬nth l j=v) (fun k=>l.length-k) 0 Zb (Weak.mk ?_) ?_
 ·simp (disch:=omega) only [go_sem,seval]
 ·rintro k ⟨hk,hno⟩;simp (disch:=omega) only [go_sem,seval];refine cD ?_ ?_<;>intro h<;>simp (disch:=omega) only [Sh.out h,go_sem,seval]
  ·have hk2:k<l.length:=Za
   refine Xd ?_;simp (disch:=omega) only [go_sem,seval];refine cD ?_ ?_<;>intro h2<;>simp (disch:=omega) only [Sh.out h2,go_sem,seval]
   ·have:nth l k=v:=by rw [XX];first | omega | (simp at h2;omega)
    have hm:v∈l:=this ▸ Zt hk2;simp [hm]
   ·have: ¬nth l k=v:=by rw [XX];first | omega | (simp at h2;omega)
    exact ⟨k+1,⟨Za,Zr.2 ⟨hno,this⟩⟩,Za,wk⟩
  ·have hkl:k=l.length:=Za
   subst hkl
   have hm:v ∉ l:=fun hm=>by
    obtain ⟨j,hj,e⟩:=ZS.1 hm;exact hno j hj (by rw [Zi hj];exact e)
   simp [hm]
theorem Et (l:List Itm) (c:Bool) (i:Nat) (hi:i<l.length) (hl:l.length<=1048576):PC 47 [.p (.list c (l.map Xz)),.p (.int .i64 i)] (.list false ((l.eraseIdx i).map Xz)):=by
 refine ACalls.frozen (S:=2) (n:=(l.eraseIdx i).length) Zb ?_
 suffices hh:ACalls Tryz.prog 47 [.p (.list c (l.map Xz)),.p (.int .i64 i)] [] fun y H'=> ∃m:List Itm,m=l.eraseIdx i/\y= .sl 0 0 m.length m.length/\H'= [.elems 2 (m.map Xz)] by
  refine hh.mono ?_;rintro x H' ⟨m,rfl,h1,h2⟩;exact ⟨h1,h2⟩
 have t1:(l.take i).length<=1048576:=by simp;omega
 have t2:(l.drop (i+1)).length<=1048576:=by simp;omega
 refine ZJ [1] Tryz.func47 rfl Zjw ?_;simp (disch:=omega) only [Tryz.f47,go_sem,seval];refine WC (EI 2 rfl rfl ?_);simp (disch:=omega) only [go_sem,seval];refine ⟨_,_,bY 34 41 _ _ l.length 16 2 (.agg [.int .i64 0,.int .i64 0]) rfl Zf Zf Zf Zf Za (by rfl) (by rfl) Za Za (by simp (disch:=omega) only [go_sem,seval]) (by simp (disch:=omega) only [go_sem,seval]),?_⟩;simp (disch:=omega) only [go_sem,seval];refine Zh [] _ _ _ _ ?_;simp (disch:=omega) only [X7,go_sem,seval]
 refine ⟨l.eraseIdx i,rfl,0,?_⟩;rw [List.eraseIdx_eq_take_drop_succ];simp (disch:=omega) only [XC,ZA,go_sem,seval]
theorem iZ {l:List Itm} {i k:Nat} (h:k<l.length):(l.take (k+1)).eraseIdx i=(l.take k).eraseIdx i++if k=i then [] else [nth l k]:=by
 have hl:(l.take k).length=k:=by rw [Xi];omega
 rw [Ya h,<- Zi h];rcases Nat.lt_trichotomy k i with h1 | h1 | h1
 ·rw [if_neg Za,List.eraseIdx_of_length_le (by simp;omega),List.eraseIdx_of_length_le Za]
 ·subst h1;rw [if_pos rfl,Yr,List.eraseIdx_append_of_length_le Za,List.eraseIdx_of_length_le (by omega:(l.take k).length<=k),hl];simp
 ·rw [if_neg Za,List.eraseIdx_append_of_lt_length Za]
theorem lG (l:List Itm) (c:Bool) (i:Nat) (hi:i<l.length) (hl:l.length<=1048576):PC 49 [.p (.list c (l.map Xz)),.p (.int .i64 i)] (.list false ((l.eraseIdx i).map Xz)):=by
 refine ACalls.frozen (S:=2) (n:=(l.eraseIdx i).length) Zb ?_
 suffices hh:ACalls Tryz.prog 49 [.p (.list c (l.map Xz)),.p (.int .i64 i)] [] fun y H'=> ∃m:List Itm,m=l.eraseIdx i/\y= .sl 0 0 m.length m.length/\H'= [.elems 2 (m.map Xz)] by
  refine hh.mono ?_;rintro x H' ⟨m,rfl,h1,h2⟩;exact ⟨h1,h2⟩
 refine ZJ [2] Tryz.func49 rfl Zjy ?_;simp (disch:=omega) only [Tryz.f49,go_sem,seval];refine Zp (Weak.ofNil 5 2 (by simp (disch:=omega) only [go_sem,seval]) Zb (Weak.refl _ _ _)) ?_;refine Zh [] _ _ _ _ ?_;simp (disch:=omega) only [go_sem,seval];refine Zl [0,1] (fun q:Nat×List Itm=> [(5,.sl 0 0 q.2.length q.2.length),(6,.p (.int .i64 q.1))]) (fun q=> [.elems 2 (q.2.map Xz)]) (fun q=>q.1<=l.length/\q.2=(l.take q.1).eraseIdx i) (fun q=>l.length-q.1) (0,[]) ⟨Zb,Zb⟩ (Weak.mk ?_) ?_
 ·simp (disch:=omega) only [go_sem,seval]
 ·rintro ⟨k,m⟩ ⟨hk,hm⟩;simp only at hk hm
  have hml:m.length<=k:=by
   have h1:=List.length_eraseIdx_le (l.take k) i;rw [<- hm,Xi] at h1;omega
  have hs:k<l.length->_:=fun h=>iZ (l:=l) (i:=i) (k:=k) h;simp (disch:=omega) only [go_sem,seval];refine cD ?_ ?_<;>intro h<;>simp (disch:=omega) only [Sh.out h,go_sem,seval]
  ·have hk2:k<l.length:=Za
   have hs:=hs hk2;refine cD ?_ ?_<;>intro h2<;>simp (disch:=omega) only [Sh.out h2,go_sem,seval]
   ·have h3: ¬k=i:=Za
    exact ⟨(k+1,m++ [nth l k]),⟨by simp only;omega,by simp only [hs,if_neg h3,hm]⟩,by simp only;omega,wk⟩
   ·have h3:k=i:=Za
    exact ⟨(k+1,m),⟨by simp only;omega,by simp only [hs,if_pos h3,hm,Yr]⟩,by simp only;omega,wk⟩
  ·have hkl:k=l.length:=Za
   subst hkl;rw [X7] at hm;exact ⟨m,hm,0,by simp (disch:=omega) only [go_sem,seval]⟩
theorem Nh {α:Type} [Inhabited α] {p:α->Bool} {l:List α} {k:Nat} (h:k<l.length):(l.take (k+1)).filter p=(l.take k).filter p++if p (nth l k)=true then [nth l k] else []:=by
 rw [Ya h,List.filter_append,<- Zi h]
 congr 1
 rw [EX]
 split<;>simp
theorem N0 (x:Inst) (l:List Itm):(KB x l).length<=(Y8 x 10).length:=EU _ _
theorem N1 (x:Inst) (l:List Itm):Bj x (KB x l)=XF x l:=by rw [Bj,if_pos (Gk x l)];rfl
theorem H4 (x:Inst) (hx:InstOk x) (l:List Itm) (c:Bool) (hl:l.length<=1048576):PT 11 [.p (Zu x),.p (.list c (l.map Xz))] [.p (Zu (QD x l)),.p (.int .i64 (YT x l))]:=by
 have hs:=Ay hx;have hcap:=Nz hx;have hrl:=JE hs;have zI:Zu zeroI= .agg [.list true [],.list true [],.list true [],.list true [],.list true [],.list true []]:=rfl;refine Zg [10] Tryz.func11 rfl Zi4 ?_;simp (disch:=omega) only [Tryz.f11,go_sem,seval];refine Z0 [10] [1,2,4,11,12] (fun k:Nat=> [(13,.p (.int .i64 k))]) (fun _=> [Ze x,Ze zeroI]) (fun k=>k<=l.length/\ ∀j,j<k->Ys x l j=0) (fun k=>l.length-k) 0 Zb (Weak.mk ?_) ?_
 ·simp (disch:=omega) only [Ze,zeroI,Zk,go_sem,seval]
 ·rintro k ⟨hk,hno⟩;simp (disch:=omega) only [Ze,zeroI,Zk,go_sem,seval];refine cD ?_ ?_<;>intro h<;>simp (disch:=omega) only [Sh.out h,go_sem,seval]
  ·have hk2:k<l.length:=Za
   refine (tI x hs (nth l k)).use ?_;simp (disch:=omega) only [go_sem,seval];refine cD ?_ ?_<;>intro h2<;>simp (disch:=omega) only [Sh.out h2,zI,go_sem,seval]
   ·have h3:XW x (nth l k)=false:=by simpa using h2
    have e0:Ys x l k=7:=by rw [Ys,h3];rfl
    have e:YT x l=7:=by rw [U1 hk2 hno (by rw [e0];decide),e0]
    have r:QD x l=zeroI:=by rw [QD,e];rfl
    simp only [e,r,zeroI,Zk];exact we
   ·have h3:XW x (nth l k)=true:=by simpa using h2
    refine Xd ?_;simp (disch:=omega) only [go_sem,seval];refine Zo (Cd (l.take k) _ (nth l k) (by simp;omega)) ?_;simp (disch:=omega) only [go_sem,seval];refine cD ?_ ?_<;>intro h4<;>simp (disch:=omega) only [Sh.out h4,go_sem,seval]
    ·have e0:Ys x l k=6:=by rw [Ys,if_pos h3,if_pos h4]
     have e:YT x l=6:=by rw [U1 hk2 hno (by rw [e0];decide),e0]
     have r:QD x l=zeroI:=by rw [QD,e];rfl
     simp only [e,r,zeroI,Zk];exact we
    ·exact ⟨k+1,⟨Za,Zr.2 ⟨hno,WN.2 ⟨h3,h4⟩⟩⟩,Za,Weak.mk (by simp (disch:=omega) only [Ze,zeroI,Zk,go_sem,seval])⟩
  ·have hkl:k=l.length:=Za
   subst hkl;have e:YT x l=0:=Cg hno
   have r:QD x l=XF x l:=by rw [QD,if_pos e]
   rw [e,r];have c1:=vJ x hs hcap (KB x l) false (by have:=N0 x l;omega);rw [N1,Gk] at c1;have ho: ∀m,m<=(Y8 x 10).length->((Y8 x 10).take m).filter (fun v=>decide (v ∉ l))=((Y8 x 10).take m).filter (fun v=>decide (v ∉ l)):=fun _ _=>rfl;have c2:=LI x hs;have hout:KB x l=(Y8 x 10).filter fun v=>decide (v ∉ l):=rfl;rw [hout] at c1;generalize Y8 x 10=R at c1 c2 hrl;generalize XF x l=Y at c1;refine Zp (Weak.ofNil 8 2 (by simp (disch:=omega) only [go_sem,seval]) Zb (Weak.refl _ _ _)) ?_;refine Zh [16] _ _ _ _ ?_
   simp (disch:=omega) only [Ze,zeroI,Zk,go_sem,seval];refine (c2).use ?_;simp (disch:=omega) only [go_sem,seval];refine Z0 [16] [1,2,4,31,32] (fun q:Nat×List Itm=> [(8,.sl 2 0 q.2.length q.2.length),(33,.p (.int .i64 q.1))]) (fun q=> [Ze x,Ze zeroI,.elems 2 (q.2.map Xz)]) (fun q=>q.1<=R.length/\q.2=(R.take q.1).filter fun v=>decide (v ∉ l)) (fun q=>R.length-q.1) (0,[]) ⟨Zb,Zb⟩ (Weak.mk ?_) ?_
   ·simp (disch:=omega) only [Ze,zeroI,Zk,go_sem,seval]
   ·rintro ⟨k,m⟩ ⟨hk,hm⟩;simp only at hk hm
    have hml:m.length<=k:=by
     have h1:=EU (fun v=>decide (v ∉ l)) (R.take k);rw [<- hm,Xi] at h1;omega
    simp (disch:=omega) only [Ze,zeroI,Zk,go_sem,seval];refine cD ?_ ?_<;>intro h5<;>simp (disch:=omega) only [Sh.out h5,go_sem,seval]
    ·have hk2:k<R.length:=Za
     have hsu:=Nh (p:=fun v=>decide (v ∉ l)) hk2;refine (Cd l c (nth R k) hl).use ?_;simp (disch:=omega) only [go_sem,seval];refine cD ?_ ?_<;>intro h6<;>simp (disch:=omega) only [Sh.out h6,go_sem,seval]
     ·exact ⟨(k+1,m++ [nth R k]),⟨by simp only;omega,by simp only [hsu,hm];rw [if_pos (by simpa using h6)]⟩,by simp only;omega,Weak.mk (by simp (disch:=omega) only [Ze,zeroI,Zk,go_sem,seval])⟩
     ·exact ⟨(k+1,m),⟨by simp only;omega,by simp only [hsu,hm];rw [if_neg (by simpa using h6),Yr]⟩,by simp only;omega,Weak.mk (by simp (disch:=omega) only [Ze,zeroI,Zk,go_sem,seval])⟩
    ·have hkl:k=R.length:=Za
     subst hkl;rw [X7] at hm;rw [<- hm] at c1;refine Zp (Weak.fz (o:=2) (by rfl)) ?_;refine Zh [] _ _ _ _ ?_;simp (disch:=omega) only [Zs,Zk,ZY,ZL,Ze,zeroI,go_sem,seval];refine Vh c1 ?_;simp (disch:=omega) only [Ze,zeroI,Zk,go_sem,seval];exact we
theorem GC (x:Inst) (hx:InstOk x) (l:List Itm) (c:Bool) (hl:l.length<=1048576):PT 15 [.p (Zu x),.p (.list c (l.map Xz))] [.p (Zu (QD x l)),.p (.int .i64 (YT x l))]:=by
 have hs:=Ay hx;have hcap:=Nz hx;have hrl:=JE hs;have zI:Zu zeroI= .agg [.list true [],.list true [],.list true [],.list true [],.list true [],.list true []]:=rfl;refine Zg [9] Tryz.func15 rfl Zi8 ?_;simp (disch:=omega) only [Tryz.f15,go_sem,seval];refine Z0 [9] [1,2,4] (fun k:Nat=> [(6,.p (.int .i64 k))]) (fun _=> [Ze x,Ze zeroI]) (fun k=>k<=l.length/\ ∀j,j<k->Ys x l j=0) (fun k=>l.length-k) 0 Zb (Weak.mk ?_) ?_
 ·simp (disch:=omega) only [Ze,zeroI,Zk,go_sem,seval]
 ·rintro k ⟨hk,hno⟩;simp (disch:=omega) only [Ze,zeroI,Zk,go_sem,seval];refine cD ?_ ?_<;>intro h<;>simp (disch:=omega) only [Sh.out h,go_sem,seval]
  ·have hk2:k<l.length:=Za
   refine Xd ?_;simp (disch:=omega) only [go_sem,seval];refine Zo (GB x hs (nth l k)) ?_;simp (disch:=omega) only [go_sem,seval];refine cD ?_ ?_<;>intro h2<;>simp (disch:=omega) only [Sh.out h2,zI,go_sem,seval]
   ·have h3:XW x (nth l k)=false:=by simpa using h2
    have e0:Ys x l k=7:=by rw [Ys,h3];rfl
    have e:YT x l=7:=by rw [U1 hk2 hno (by rw [e0];decide),e0]
    have r:QD x l=zeroI:=by rw [QD,e];rfl
    simp only [e,r,zeroI,Zk];exact we
   ·have h3:XW x (nth l k)=true:=by simpa using h2
    refine Xd ?_;simp (disch:=omega) only [go_sem,seval];refine Zo (kK (l.take k) _ (nth l k) (by simp;omega)) ?_;simp (disch:=omega) only [go_sem,seval];refine cD ?_ ?_<;>intro h4<;>simp (disch:=omega) only [Sh.out h4,go_sem,seval]
    ·have e0:Ys x l k=6:=by rw [Ys,if_pos h3,if_pos h4]
     have e:YT x l=6:=by rw [U1 hk2 hno (by rw [e0];decide),e0]
     have r:QD x l=zeroI:=by rw [QD,e];rfl
     simp only [e,r,zeroI,Zk];exact we
    ·exact ⟨k+1,⟨Za,Zr.2 ⟨hno,WN.2 ⟨h3,h4⟩⟩⟩,Za,Weak.mk (by simp (disch:=omega) only [Ze,zeroI,Zk,go_sem,seval])⟩
  ·have hkl:k=l.length:=Za
   subst hkl;have e:YT x l=0:=Cg hno
   have r:QD x l=XF x l:=by rw [QD,if_pos e]
   rw [e,r];have c1:=Mf x hs hcap (KB x l) false (by have:=N0 x l;omega);rw [N1,Gk] at c1;have c2:=nX x hs;have hout:KB x l=(Y8 x 10).filter fun v=>decide (v ∉ l):=rfl;rw [hout] at c1;generalize Y8 x 10=R at c1 c2 hrl;generalize XF x l=Y at c1;refine Zp (Weak.ofNil 7 2 (by simp (disch:=omega) only [go_sem,seval]) Zb (Weak.refl _ _ _)) ?_;refine Zh [15] _ _ _ _ ?_;simp (disch:=omega) only [Ze,zeroI,Zk,go_sem,seval];refine (c2).use ?_;simp (disch:=omega) only [go_sem,seval];refine Z0 [15] [1,2,4,8] (fun q:Nat×List Itm=> [(7,.sl 2 0 q.2.length q.2.length),(9,.p (.int .i64 q.1))]) (fun q=> [Ze x,Ze zeroI,.elems 2 (q.2.map Xz)]) (fun q=>q.1<=R.length/\q.2=(R.take q.1).filter fun v=>decide (v ∉ l)) (fun q=>R.length-q.1) (0,[]) ⟨Zb,Zb⟩ (Weak.mk ?_) ?_
   ·simp (disch:=omega) only [Ze,zeroI,Zk,go_sem,seval]
   ·rintro ⟨k,m⟩ ⟨hk,hm⟩;simp only at hk hm
    have hml:m.length<=k:=by
     have h1:=EU (fun v=>decide (v ∉ l)) (R.take k);rw [<- hm,Xi] at h1;omega
    simp (disch:=omega) only [Ze,zeroI,Zk,go_sem,seval];refine cD ?_ ?_<;>intro h5<;>simp (disch:=omega) only [Sh.out h5,go_sem,seval]
    ·have hk2:k<R.length:=Za
     have hsu:=Nh (p:=fun v=>decide (v ∉ l)) hk2;refine (kK l c (nth R k) hl).use ?_;simp (disch:=omega) only [go_sem,seval];refine cD ?_ ?_<;>intro h6<;>simp (disch:=omega) only [Sh.out h6,go_sem,seval]
     ·exact ⟨(k+1,m++ [nth R k]),⟨by simp only;omega,by simp only [hsu,hm];rw [if_pos (by simpa using h6)]⟩,by simp only;omega,Weak.mk (by simp (disch:=omega) only [Ze,zeroI,Zk,go_sem,seval])⟩
     ·exact ⟨(k+1,m),⟨by simp only;omega,by simp only [hsu,hm];rw [if_neg (by simpa using h6),Yr]⟩,by simp only;omega,Weak.mk (by simp (disch:=omega) only [Ze,zeroI,Zk,go_sem,seval])⟩
    ·have hkl:k=R.length:=Za
     subst hkl;rw [X7] at hm;rw [<- hm] at c1;refine Zp (Weak.fz (o:=2) (by rfl)) ?_;refine Zh [] _ _ _ _ ?_;simp (disch:=omega) only [Zs,Zk,ZY,ZL,Ze,zeroI,go_sem,seval];refine Vh c1 ?_;simp (disch:=omega) only [Ze,zeroI,Zk,go_sem,seval];exact we
theorem ZkX (x:Inst) (hx:InstOk x) (hn:x.orders.length<=4):ACalls Tryz.prog 43 [.p (Zu x)] [] fun y H'=> ∃p c e,(c=JI x/\e=XN x)/\y= .tup [.p (JY p),.p (.int .i64 c),.p (.int .i64 e)]/\H'= []:=by
 have hs:=Ay hx;refine (oV x hx hn (by have:=hs.be;omega) (by have:=hs.ap;omega)).mono fun y H' h=> ?_;obtain ⟨p,_,rfl,rfl⟩:=h;exact ⟨p,_,_,⟨rfl,rfl⟩,rfl,rfl⟩
theorem ZkY (x:Inst) (hx:InstOk x) (hn:x.orders.length<=4):ACalls Tryz.prog 24 [.p (Zu x)] [] fun y H'=> ∃p c e,(c=JI x/\e=XN x)/\y= .tup [.p (JY p),.p (.int .i64 c),.p (.int .i64 e)]/\H'= []:=by
 have hs:=Ay hx;refine (oW x hx hn (by have:=hs.be;omega)).mono fun y H' h=> ?_;obtain ⟨p,_,rfl,rfl⟩:=h;exact ⟨p,_,_,⟨rfl,rfl⟩,rfl,rfl⟩
theorem nH (x:Inst) (hx:InstOk x) (hn:x.orders.length<=4):PT 14 [.p (Zu x)] [.p (.bool (decide (XN x=0))),.p (.int .i64 0)]:=by
 have c1:=ZkX x hx hn;have h:=A6 hx hn;generalize XN x=e at c1 h;generalize JI x=c at c1;refine Zg [] Tryz.func14 rfl Zi7 ?_;simp (disch:=omega) only [Tryz.f14,go_sem,seval];refine Mt c1 fun p c' e' hR=> ?_;obtain ⟨rfl,rfl⟩:=hR;rcases h with rfl | rfl
 ·simp (disch:=omega) only [go_sem,seval];exact we
 ·simp (disch:=omega) only [go_sem,seval];exact we
theorem ZdS (x:Inst) (hx:InstOk x) (hn:x.orders.length<=4):PT 52 [.p (Zu x)] [.p (.bool (decide (XN x=0))),.p (.int .i64 0)]:=by
 have c1:=ZkY x hx hn;have h:=A6 hx hn;generalize XN x=e at c1 h;generalize JI x=c at c1;refine Zg [] Tryz.func52 rfl Zjz ?_;simp (disch:=omega) only [Tryz.f52,go_sem,seval];refine Mt c1 fun p c' e' hR=> ?_;obtain ⟨rfl,rfl⟩:=hR;rcases h with rfl | rfl
 ·simp (disch:=omega) only [go_sem,seval];exact we
 ·simp (disch:=omega) only [go_sem,seval];exact we
noncomputable def DA (x:Inst) (l:List Itm):Bool:=decide (YT x l=0)&&decide (XN (XF x l)=24)
noncomputable def F3 (x:Inst) (l:List Itm):Bool:=decide (YT x l=0)&&decide (XN (XF x l)=0)
theorem Lk (x:Inst) (hx:InstOk x) (hn:x.orders.length<=4) (l:List Itm) (c:Bool) (hl:l.length<=1048576):PT 46 [.p (Zu x),.p (.list c (l.map Xz))] [.p (.bool (DA x l)),.p (.int .i64 (YT x l))]:=by
 have c1:=H4 x hx l c hl;have c2:=nH (XF x l) (AA hx) (by rw [F1];exact hn);have h:=Cv hx hn l;refine Zg [] Tryz.func46 rfl Zjv ?_;simp (disch:=omega) only [Tryz.f46,go_sem,seval];refine Vh c1 ?_;simp (disch:=omega) only [go_sem,seval]
 by_cases e0:YT x l=0
 ·have k:QD x l=XF x l:=by rw [QD,if_pos e0]
  have b:DA x l=decide (XN (XF x l)=24):=by rw [DA,e0];rfl
  rw [k,e0,b];generalize XF x l=Y at c2 h;generalize XN Y=s at c2 h;simp (disch:=omega) only [go_sem,seval];refine Vh c2 ?_;rcases h with rfl | rfl
  ·simp (disch:=omega) only [go_sem,seval];exact we
  ·simp (disch:=omega) only [go_sem,seval];exact we
 ·have b:DA x l=false:=by rw [DA,Vr e0];rfl
  rw [b];refine cD ?_ ?_<;>intro h1<;>simp (disch:=omega) only [Sh.out h1,go_sem,seval]
  ·exact we
  ·exact absurd (Z7.1 h1) e0
theorem lC (x:Inst) (hx:InstOk x) (hn:x.orders.length<=4) (l:List Itm) (c:Bool) (hl:l.length<=1048576):PT 48 [.p (Zu x),.p (.list c (l.map Xz))] [.p (.bool (F3 x l)),.p (.int .i64 (YT x l))]:=by
 have c1:=GC x hx l c hl;have c2:=ZdS (XF x l) (AA hx) (by rw [F1];exact hn);have h:=Cv hx hn l;refine Zg [] Tryz.func48 rfl Zjx ?_;simp (disch:=omega) only [Tryz.f48,go_sem,seval];refine Vh c1 ?_;simp (disch:=omega) only [go_sem,seval]
 by_cases e0:YT x l=0
 ·have k:QD x l=XF x l:=by rw [QD,if_pos e0]
  have b:F3 x l=decide (XN (XF x l)=0):=by rw [F3,e0];rfl
  rw [k,e0,b];generalize XF x l=Y at c2 h;generalize XN Y=s at c2 h;simp (disch:=omega) only [go_sem,seval];refine Vh c2 ?_;simp (disch:=omega) only [go_sem,seval];exact we
 ·have b:F3 x l=false:=by rw [F3,Vr e0];rfl
  rw [b];refine cD ?_ ?_<;>intro h1<;>simp (disch:=omega) only [Sh.out h1,go_sem,seval]
  ·exact we
  ·exact absurd (Z7.1 h1) e0
theorem bM {x:Inst} {l:List Itm} {k:Nat} (h:k<l.length):KA x (l.length-k) l k=if XN (XF x (l.eraseIdx k))=24 then KA x ((l.eraseIdx k).length-k) (l.eraseIdx k) k else KA x (l.length-(k+1)) l (k+1):=by
 have hl:(l.eraseIdx k).length=l.length-1:=by rw [List.length_eraseIdx,if_pos h]
 rw [hl,show l.length-k=(l.length-(k+1))+1 by omega,KA,if_pos h,show l.length-1-k=l.length-(k+1) by omega]
theorem bL {x:Inst} {l:List Itm} :KA x (l.length-l.length) l l.length=l:=by rw [Ka,KA]
theorem sO {l m:List Itm} (h:l.Sublist m) (k:Nat):(l.eraseIdx k).Sublist m:=(List.eraseIdx_sublist l k).trans h
theorem bN (x:Inst) (hx:InstOk x) (hn:x.orders.length<=4):PT 27 [.p (Zu x)] [.p (.list (decide (XN x=0)) ((PY x).map Xz)),.p (.int .i64 (PX x))]:=by
 have c1:=nH x hx hn;have c2:=LI x (Ay hx);have hrl:=JE (Ay hx);have h:=A6 hx hn;refine Zg [] Tryz.func27 rfl Zjc ?_;simp (disch:=omega) only [Tryz.f27,go_sem,seval];refine Vh c1 ?_;rcases h with h | h
 ·have e1:PY x= []:=by rw [PY,h];rfl
  have e2:PX x=9:=by rw [PX,h];rfl
  rw [e1,e2,h];simp (disch:=omega) only [go_sem,seval];exact we
 ·have e1:PY x=lQ x:=by rw [PY,if_pos h]
  have e2:PX x=0:=by rw [PX,if_pos h]
  rw [e1,e2,h];simp (disch:=omega) only [go_sem,seval];refine (c2).use ?_;simp (disch:=omega) only [go_sem,seval];refine Zl [1] (fun q:Nat×List Itm=> [(6,.p (.list false (q.2.map Xz))),(7,.p (.int .i64 q.1))]) (fun _=> [Ze x]) (fun q=>q.1<=q.2.length/\q.2.Sublist (Y8 x 10)/\KA x (q.2.length-q.1) q.2 q.1=lQ x) (fun q=>q.2.length-q.1) (0,Y8 x 10) ⟨Zb,List.Sublist.refl _,rfl⟩ (Weak.mk ?_) ?_
  ·simp (disch:=omega) only [Ze,go_sem,seval]
  ·rintro ⟨k,l⟩ ⟨hk,hsub,hm⟩;simp only at hk hsub hm;have hll:=hsub.length_le;simp (disch:=omega) only [Ze,go_sem,seval];refine cD ?_ ?_<;>intro h1<;>simp (disch:=omega) only [Sh.out h1,go_sem,seval]
   ·have hk2:k<l.length:=Za
    have hst:=bM (x:=x) hk2;rw [hm] at hst
    have hel:(l.eraseIdx k).length=l.length-1:=by rw [List.length_eraseIdx,if_pos hk2]
    have hes:=sO hsub k
    have hb:DA x (l.eraseIdx k)=decide (XN (XF x (l.eraseIdx k))=24):=by rw [DA,N8 hes];rfl
    refine (Et l false k hk2 Za).use ?_;simp (disch:=omega) only [go_sem,seval];have c3:=Lk x hx hn (l.eraseIdx k) false Za;rw [N8 hes,hb] at c3;refine Vh c3 ?_;simp (disch:=omega) only [go_sem,seval];refine cD ?_ ?_<;>intro h2<;>simp (disch:=omega) only [Sh.out h2,go_sem,seval]
    ·rw [if_pos h2] at hst;exact ⟨(k,l.eraseIdx k),⟨by simp only;omega,hes,hst.symm⟩,by simp only;omega,Weak.mk (by simp (disch:=omega) only [Ze,go_sem,seval])⟩
    ·rw [if_neg h2] at hst;exact ⟨(k+1,l),⟨by simp only;omega,hsub,hst.symm⟩,by simp only;omega,Weak.mk (by simp (disch:=omega) only [Ze,go_sem,seval])⟩
   ·have hkl:k=l.length:=Za
    subst hkl;rw [bL] at hm;rw [<- hm];exact we
theorem M1 {x:Inst} {l:List Itm} (h0:YT x l=0) (h1:XN (XF x l)=24) {k:Nat} (hk:k<l.length) (h:XN (XF x (l.eraseIdx k))=24):BB x l=33:=by
 rw [BB,if_neg Za,if_neg Za,if_pos (Wk.2 ⟨k,ZM.2 hk,Qo h⟩)]
theorem R8 {x:Inst} {l:List Itm} (h0:YT x l=0) (h1:XN (XF x l)=24) (h: ∀k,k<l.length-> ¬XN (XF x (l.eraseIdx k))=24):BB x l=0:=by
 rw [BB,if_neg Za,if_neg Za,if_neg];intro hh;obtain ⟨k,hk,e⟩:=Wk.1 hh;exact h k (ZM.1 hk) (AH e)
theorem T9 (x:Inst) (hx:InstOk x) (hn:x.orders.length<=4) (l:List Itm) (c:Bool) (hl:l.length<=1048576):PC 16 [.p (Zu x),.p (.list c (l.map Xz))] (.int .i64 (BB x l)):=by
 have c1:=Lk x hx hn l c hl;refine Zg [] Tryz.func16 rfl Zi9 ?_;simp (disch:=omega) only [Tryz.f16,go_sem,seval]
 by_cases e0:YT x l=0
 ·have hb:DA x l=decide (XN (XF x l)=24):=by rw [DA,e0];rfl
  rw [e0,hb] at c1;refine Vh c1 ?_;simp (disch:=omega) only [go_sem,seval];refine cD ?_ ?_<;>intro h1<;>simp (disch:=omega) only [Sh.out h1,go_sem,seval]
  ·have hv:BB x l=9:=by rw [BB,if_neg Za,if_pos h1]
   rw [hv];exact we
  ·have h1:XN (XF x l)=24:=Z7.1 h1;refine Zl [1,2,22] (fun k:Nat=> [(23,.p (.int .i64 k))]) (fun _=> [Ze x]) (fun k=>k<=l.length/\ ∀j,j<k-> ¬XN (XF x (l.eraseIdx j))=24) (fun k=>l.length-k) 0 ⟨Za,fun j hj=>Za⟩ (Weak.mk ?_) ?_
   ·simp (disch:=omega) only [Ze,go_sem,seval]
   ·rintro k ⟨hk,hno⟩;simp (disch:=omega) only [Ze,go_sem,seval];refine cD ?_ ?_<;>intro h2<;>simp (disch:=omega) only [Sh.out h2,go_sem,seval]
    ·have hk2:k<l.length:=Za
     have c2:=Lk x hx hn (l.eraseIdx k) false (by have:=List.length_eraseIdx_le l k;omega)
     have hb:DA x (l.eraseIdx k)=decide (XN (XF x (l.eraseIdx k))=24):=by rw [DA,JZ e0];rfl
     rw [JZ e0,hb] at c2;refine Xd ?_;simp (disch:=omega) only [go_sem,seval];refine Zo (Et l c k hk2 hl) ?_;simp (disch:=omega) only [go_sem,seval];refine Qa c2 ?_;simp (disch:=omega) only [go_sem,seval];refine cD ?_ ?_<;>intro h3<;>simp (disch:=omega) only [Sh.out h3,go_sem,seval]
     ·have hv:=M1 e0 h1 hk2 h3;rw [hv];exact we
     ·exact ⟨k+1,⟨Za,Zr.2 ⟨hno,h3⟩⟩,Za,Weak.mk (by simp (disch:=omega) only [Ze,go_sem,seval])⟩
    ·have hkl:k=l.length:=Za
     subst hkl;have hv:=R8 e0 h1 hno;rw [hv];exact we
 ·have b:DA x l=false:=by rw [DA,Vr e0];rfl
  have hv:BB x l=YT x l:=by rw [BB,if_pos e0]
  rw [b] at c1;rw [hv];refine Vh c1 ?_;simp (disch:=omega) only [go_sem,seval];refine cD ?_ ?_<;>intro h1<;>simp (disch:=omega) only [Sh.out h1,go_sem,seval]
  ·exact we
  ·exact absurd (Z7.1 h1) e0
theorem Rn (x:Inst) (hx:InstOk x) (hn:x.orders.length<=4) (l:List Itm) (c:Bool) (hl:l.length<=1048576):PC 17 [.p (Zu x),.p (.list c (l.map Xz))] (.int .i64 (BB x l)):=by
 have c1:=lC x hx hn l c hl;refine Zg [] Tryz.func17 rfl Zja ?_;simp (disch:=omega) only [Tryz.f17,go_sem,seval]
 by_cases e0:YT x l=0
 ·have hb:F3 x l=decide (XN (XF x l)=0):=by rw [F3,e0];rfl
  have he:=Cv hx hn l;rw [e0,hb] at c1;refine Vh c1 ?_;simp (disch:=omega) only [go_sem,seval];refine cD ?_ ?_<;>intro h1<;>simp (disch:=omega) only [Sh.out h1,go_sem,seval]
  ·have hv:BB x l=9:=by rw [BB,if_neg Za,if_pos Za]
   rw [hv];exact we
  ·have h1:XN (XF x l)=24:=Za
   refine Zl [1,2] (fun k:Nat=> [(7,.p (.int .i64 k))]) (fun _=> [Ze x]) (fun k=>k<=l.length/\ ∀j,j<k-> ¬XN (XF x (l.eraseIdx j))=24) (fun k=>l.length-k) 0 ⟨Za,fun j hj=>Za⟩ (Weak.mk ?_) ?_
   ·simp (disch:=omega) only [Ze,go_sem,seval]
   ·rintro k ⟨hk,hno⟩;simp (disch:=omega) only [Ze,go_sem,seval];refine cD ?_ ?_<;>intro h2<;>simp (disch:=omega) only [Sh.out h2,go_sem,seval]
    ·have hk2:k<l.length:=Za
     have he2:=Cv hx hn (l.eraseIdx k);have c2:=lC x hx hn (l.eraseIdx k) false (by have:=List.length_eraseIdx_le l k;omega)
     have hb:F3 x (l.eraseIdx k)=decide (XN (XF x (l.eraseIdx k))=0):=by rw [F3,JZ e0];rfl
     rw [JZ e0,hb] at c2;refine Xd ?_;simp (disch:=omega) only [go_sem,seval];refine Zo (lG l c k hk2 hl) ?_;simp (disch:=omega) only [go_sem,seval];refine Qa c2 ?_;simp (disch:=omega) only [go_sem,seval];refine cD ?_ ?_<;>intro h3<;>simp (disch:=omega) only [Sh.out h3,go_sem,seval]
     ·have hv:=M1 e0 h1 hk2 Za;rw [hv];exact we
     ·exact ⟨k+1,⟨Za,Zr.2 ⟨hno,Za⟩⟩,Za,Weak.mk (by simp (disch:=omega) only [Ze,go_sem,seval])⟩
    ·have hkl:k=l.length:=Za
     subst hkl;have hv:=R8 e0 h1 hno;rw [hv];exact we
 ·have b:F3 x l=false:=by rw [F3,Vr e0];rfl
  have hv:BB x l=YT x l:=by rw [BB,if_pos e0]
  rw [b] at c1;rw [hv];refine Vh c1 ?_;simp (disch:=omega) only [go_sem,seval];refine cD ?_ ?_<;>intro h1<;>simp (disch:=omega) only [Sh.out h1,go_sem,seval]
  ·exact we
  ·exact absurd (Z7.1 h1) e0
def ZiL : Typ:= { name:= [118],count:=1,src:=0,dst:=0,cap_c:=false,cap:= [5],cls:=9,drive:=9,opn:=0,rest:=0,skills:=0,fixed:=0,perMile:=0,perTick:=0,prof:=0 }
def ZiK : Ord:= { name:= [111],load_c:=false,load:= [1],pick:=⟨-1,0,0,0⟩,drp:=⟨0,0,9,0⟩,skills:=1,penalty:= -1,split:=1,last:= -1,now:= -1,off:=false }
def exaX : Inst:= { net:= { places_c:=false,places:= [[97]],arcs_c:=true,arcs:= [] },types_c:=false,types:= [ZiL],orders_c:=false,orders:= [ZiK],apart_c:=true,apart:= [],before_c:=true,before:= [] }
theorem HJ : InstOk exaX:=by
 refine ⟨⟨⟨⟨by decide,fun i hi=> ?_⟩,by decide⟩,fun i hi=> ?_⟩,⟨rfl,fun i hi=> ?_⟩,En.1 (by rfl),rfl⟩
 ·match i,hi with
  | 0,_=>exact ⟨rfl,fun k hk=>Za⟩
 ·exact absurd hi (by simp [exaX])
 ·have:i=0:=by simp [exaX] at hi;omega
  subst this;exact ⟨⟨⟨⟨⟨⟨⟨⟨rfl,fun j hj=>Za⟩,rfl⟩,rfl,rfl⟩,rfl⟩,rfl⟩,rfl,by decide⟩,rfl,rfl⟩,rfl,rfl,rfl,rfl⟩
def exaL : List Itm:= [⟨2,0⟩,⟨3,0⟩,⟨4,0⟩,⟨7,0⟩,⟨8,0⟩,⟨9,0⟩,⟨10,0⟩]
theorem HK : Y8 exaX 10=exaL:=by decide+kernel
theorem Lq {l:List Itm} :(XF exaX l).orders.length=1/\(XF exaX l).types.length=1:=⟨W0.1,W0.2⟩
theorem Sm {l:List Itm} :nth (XF exaX l).orders 0=YL ZiK (0:Nat) (KB exaX l):=ZU (by decide)
theorem sR {l:List Itm} :nth (XF exaX l).types 0=YH ZiL (0:Nat) (KB exaX l):=Yv (by decide)
theorem dG {x:Inst} {r:Rte} (h:XI x r=0): ∀v∈r.visits,Yg (Zx x r) (nth x.orders v.order.toNat).skills=true:=fun v hv=>by
 cases hb:Yg (Zx x r) (nth x.orders v.order.toNat).skills with
 | true=>rfl
 | false =>
  exfalso;have ha:(r.visits.any fun v=> !Yg (Zx x r) (nth x.orders v.order.toNat).skills)=true:=Wk.2 ⟨v,hv,by rw [hb];rfl⟩;unfold XI at h
  split at h
  ·simp at h
  ·split at h
   ·rename_i h1;exact h1 h
   ·first
    | (rw [if_pos ha] at h;simp at h)
    | simp at h
theorem Aq {l:List Itm} (h1:(⟨4,0⟩:Itm)∈l) (h2:(⟨10,0⟩:Itm)∈l):XN (XF exaX l)=24:=by
 have hy:=AA (l:=l) HJ;obtain ⟨l1,l2⟩:=Lq (l:=l);rcases A5 hy Za with h | ⟨_,⟨q,hq,_⟩,_⟩
 ·exact h.1
 ·exfalso;have eo:=Sm (l:=l);have et:=sR (l:=l);have n4:(⟨4,((0:Nat):Int)⟩:Itm) ∉ KB exaX l:=fun h=>(KW.1 h).2 h1;have n10:(⟨10,((0:Nat):Int)⟩:Itm) ∉ KB exaX l:=fun h=>(KW.1 h).2 h2
  have hs:(nth (XF exaX l).orders 0).skills=1:=by rw [eo];simp only [YL,if_neg n4];rfl
  have hp:(nth (XF exaX l).orders 0).penalty= -1:=by rw [eo];simp only [YL,if_neg n10];rfl
  have hf:(nth (XF exaX l).orders 0).off=false:=by rw [eo];rfl
  have ht:(nth (XF exaX l).types 0).skills=0:=by rw [et];rfl
  have hno:X3 (XF exaX l)= []:=by
   rw [List.eq_nil_iff_forall_not_mem];intro c hc;obtain ⟨k,m,g1,g2,_⟩:=MI hy hc;have he:=Qu g2;have hr:=WO he;have hru:=Uo he
   obtain ⟨v,hv⟩: ∃v,v∈m:=by
    cases m with
    | nil=>exact absurd rfl hr.ne
    | cons v m=>exact ⟨v,Zb⟩
   have hi:=hr.inr v hv;have hab:=dG hru v hv
   have ek:k=0:=Za
   subst ek
   have ev0:v.order.toNat=0:=Za
   rw [ev0,hs] at hab;have hab:Yg (nth (XF exaX l).types 0) 1=true:=hab;simp only [Yg,ht,Zw,Zz,ZM] at hab;have:=hab.2 0 Za;simp at this
  unfold Hc at hq;rw [hno,l1] at hq;have n0:nth [(-1:Int)] 0= -1:=rfl;simp [JN,l1,hf,hp,n0] at hq
theorem jB {l:List Itm} (hs: ∀v∈l,v∈exaL) (h:(⟨4,0⟩:Itm) ∉ l):XN (XF exaX l)=0:=by
 refine bE HJ (by decide) (B:= [⟨2,0⟩,⟨3,0⟩,⟨7,0⟩,⟨8,0⟩,⟨9,0⟩,⟨10,0⟩]) (fun v hv=> ?_) ?_
 ·have:=hs v hv;simp only [exaL,Xa,Vp,WG] at this ⊢;rcases this with e | e | e | e | e | e | e
  ·exact .inl e
  ·exact .inr (.inl e)
  ·exact absurd (e ▸ hv) h
  ·exact .inr (.inr (.inl e))
  ·exact .inr (.inr (.inr (.inl e)))
  ·exact .inr (.inr (.inr (.inr (.inl e))))
  ·exact .inr (.inr (.inr (.inr (.inr e))))
 ·obtain ⟨B,hB⟩: ∃B:List Itm,B= [⟨2,0⟩,⟨3,0⟩,⟨7,0⟩,⟨8,0⟩,⟨9,0⟩,⟨10,0⟩]:=⟨_,rfl⟩;rw [<- hB];have hy:=AA (l:=B) HJ;obtain ⟨l1,l2⟩:=Lq (l:=B)
  have hpr:(YR (XF exaX B) ⟨0,0,true,[],false,[⟨0,true⟩]⟩).2=0:=by rw [hB];kernel_rfl
  have hp:(nth (XF exaX B).orders 0).penalty= -1/\(nth (XF exaX B).orders 0).off=false/\(nth (XF exaX B).types 0).count=1:=by rw [hB];exact ⟨Zf,Zf,Zf⟩
  obtain ⟨j,j1,j2,j3,_⟩:=iO hy hpr ⟨by decide,by rw [l2];decide⟩ rfl rfl;have j3:(nth (X3 (XF exaX B)) j).set=1:=j3;have j2:(nth (X3 (XF exaX B)) j).typ=0:=j2;rcases A5 hy Za with ⟨_,_,g⟩ | g
  ·exfalso
   have hc:KJ (XF exaX B) (X3 (XF exaX B)) [-1] j 0=true:=by
    unfold KJ;rw [j2,j3,show ((0:Int).toNat)=0 from rfl,hp.2.2]
    rfl
   have:Vv 1 [-1] j= [(j:Int)]:=by simp [Vv]
   unfold Hc at g;rw [l1] at g;simp only [JN,l1,hp.2.1,Nat.reduceAdd,Ka] at g;rw [if_neg (by simp [nth])] at g;have g2:=(VN.1 g).1;rw [List.flatMap_eq_nil_iff] at g2;have:=g2 j (ZM.2 j1);rw [List.replicate_one,if_pos hc] at this;simp at this
  ·exact g.1
theorem sQ {l:List Itm} (hs: ∀v∈l,v∈exaL) (h:(⟨10,0⟩:Itm) ∉ l):XN (XF exaX l)=0:=by
 obtain ⟨l1,l2⟩:=Lq (l:=l);refine oT (AA HJ) Za fun k hk ho=> ?_
 obtain rfl:k=0:=Za
 have n10:(⟨10,((0:Nat):Int)⟩:Itm)∈KB exaX l:=KW.2 ⟨by decide+kernel,h⟩;rw [Sm];simp only [YL,if_pos n10];exact YW _
theorem CQ {x:Inst} {f k:Nat} {l l':List Itm} (hk:k<l.length) (he:l.eraseIdx k=l') (h:XN (XF x l')=24):KA x (f+1) l k=KA x f l' k:=by
 rw [KA,if_pos hk,he,if_pos h]
theorem lL {x:Inst} {f k:Nat} {l l':List Itm} (hk:k<l.length) (he:l.eraseIdx k=l') (h:XN (XF x l')=0):KA x (f+1) l k=KA x f l (k+1):=by
 rw [KA,if_pos hk,he,if_neg (by rw [h];decide)]
theorem Lp : XN exaX=24:=by
 rw [<- lB HJ (by decide),HK];exact Aq (by decide) (by decide)
theorem sP : lQ exaX= [⟨4,0⟩,⟨10,0⟩]:=by
 rw [lQ,HK]
 show KA exaX 7 exaL 0=_
 rw [CQ (l':= [⟨3,0⟩,⟨4,0⟩,⟨7,0⟩,⟨8,0⟩,⟨9,0⟩,⟨10,0⟩]) (by decide) rfl (Aq (by decide) (by decide))];rw [CQ (l':= [⟨4,0⟩,⟨7,0⟩,⟨8,0⟩,⟨9,0⟩,⟨10,0⟩]) (by decide) rfl (Aq (by decide) (by decide))];rw [lL (l':= [⟨7,0⟩,⟨8,0⟩,⟨9,0⟩,⟨10,0⟩]) (by decide) rfl (jB (by decide) (by decide))];rw [CQ (l':= [⟨4,0⟩,⟨8,0⟩,⟨9,0⟩,⟨10,0⟩]) (by decide) rfl (Aq (by decide) (by decide))];rw [CQ (l':= [⟨4,0⟩,⟨9,0⟩,⟨10,0⟩]) (by decide) rfl (Aq (by decide) (by decide))];rw [CQ (l':= [⟨4,0⟩,⟨10,0⟩]) (by decide) rfl (Aq (by decide) (by decide))]
 rw [lL (l':= [⟨4,0⟩]) (by decide) rfl (sQ (by decide) (by decide))];rw [KA]
theorem sT (x:Inst) (hw:x.wf 1048576):ACalls Tryz.prog 8 [.p (Zu x)] [] fun y H'=> ∃b:Bool,(b=true↔x.orders.length<=3/\x.types.length<=2/\InstOk x)/\y= .p (.bool b)/\H'= []:=by
 have w3:=hw.2.1;have w4:=hw.2.2.2.1;refine ACalls.pureE (Y1 Tryz.func8 rfl Zoy (Zh [] _ _ _ _ ?_));simp (disch:=omega) only [Tryz.f8,go_sem,seval];refine gT ?_ ?_<;>intro h<;>simp (disch:=omega) only [Sh.out h,go_sem,seval]
 ·refine gT ?_ ?_<;>intro h2<;>simp (disch:=omega) only [Sh.out h2,go_sem,seval]
  ·refine ((ZaD x hw).frozenE).useV fun m hm=> ?_;simp (disch:=omega) only [go_sem,seval];refine ⟨decide (m.length=0),?_,Zb⟩;have:=hm.emp;rw [Zq,List.length_eq_zero_iff,this]
   constructor
   ·intro h2;exact ⟨Za,Za,h2⟩
   ·intro h2;exact h2.2.2
  ·exact ⟨false,by simp;omega,rfl⟩
 ·exact ⟨false,by simp;omega,rfl⟩
theorem Dw : PC 9 [] (.bool true):=by
 have hm:=bN exaX HJ (by decide);rw [show PY exaX= [⟨4,0⟩,⟨10,0⟩] by rw [PY,if_pos Lp,sP],show PX exaX=0 by rw [PX,if_pos Lp],Lp] at hm;obtain ⟨R,hR⟩: ∃R:List Itm,R= [⟨4,0⟩,⟨10,0⟩]:=⟨_,rfl⟩;rw [<- hR] at hm
 have r1:R.length=2:=by rw [hR];rfl
 have r2:nth R 0=⟨4,0⟩:=by rw [hR];rfl
 have r3:nth R 1=⟨10,0⟩:=by rw [hR];rfl
 clear hR;refine UV [1,2,3] Tryz.func9 rfl Zoz ?_;simp (disch:=omega) only [Tryz.f9,go_sem,seval];refine WC (RZ 3 ?_);simp (disch:=omega) only [go_sem,seval];refine ⟨_,_,Weak.fz (o:=1) (by rfl),?_⟩;simp (disch:=omega) only [Zs,Zk,ZY,ZL,ZP,ZC,go_sem,seval];refine Zh [2,3] _ _ _ _ ?_;simp (disch:=omega) only [go_sem,seval];refine Zp (Weak.fz (o:=0) (by rfl)) ?_;refine Zp (Weak.fz (o:=2) (by rfl)) ?_;refine WC (RZ 1 ?_);simp (disch:=omega) only [Zs,Zk,ZY,ZL,ZP,ZC,go_sem,seval]
 refine ⟨_,_,Weak.fz (o:=4) (by rfl),?_⟩;simp (disch:=omega) only [Zs,Zk,ZY,ZL,ZP,ZC,go_sem,seval];refine Zh [3] _ _ _ _ ?_;simp (disch:=omega) only [go_sem,seval];refine Zp (Weak.fz (o:=5) (by rfl)) ?_;refine Zh [] _ _ _ _ ?_;simp (disch:=omega) only [Zs,Zk,ZY,ZL,go_sem,seval];refine Vh hm ?_;simp (disch:=omega) only [r1,r2,r3,go_sem,seval]
theorem tN {x:Inst} {l:List Itm} (h:x.wf 1048576):(QD x l).wf 1048576:=by
 unfold QD;split
 ·exact RH h
 ·exact pT
theorem Hn (x:Inst) (hw:x.wf 1048576) (l:List Itm) (c:Bool) (hl:l.length<=1048576):PC 4 [.p (Zu x),.p (.list c (l.map Xz))] (.bool true):=by
 refine UV [] Tryz.func4 rfl Zox ?_;simp (disch:=omega) only [Tryz.f4,go_sem,seval];refine (sT x hw).useV fun b hb=> ?_;simp (disch:=omega) only [go_sem,seval];refine gF ?_ ?_<;>intro h<;>simp (disch:=omega) only [Sh.out h,go_sem,seval]
 ·refine (Dw).use ?_;simp (disch:=omega) only [go_sem,seval]
 ·obtain ⟨hn,_,hx⟩:=hb.1 (by simpa using h)
  have hn4:x.orders.length<=4:=Za
  refine cD ?_ ?_<;>intro h2<;>simp (disch:=omega) only [Sh.out h2,go_sem,seval]
  ·refine (Dw).use ?_;simp (disch:=omega) only [go_sem,seval]
  ·have c1:=H4 x hx l c hl;have c2:=GC x hx l c hl;have c3:=dK (QD x l) (tN hw);have c4:=T9 x hx hn4 l c hl;have c5:=Rn x hx hn4 l c hl;generalize QD x l=Y at c1 c2 c3;generalize YT x l=e at c1 c2;generalize BB x l=k at c4 c5;refine Vh c1 ?_;simp (disch:=omega) only [go_sem,seval];refine Vh c2 ?_;simp (disch:=omega) only [go_sem,seval];refine Xd ?_;simp (disch:=omega) only [eq_self,Vj,go_sem,seval];refine Zo (c3) ?_;simp (disch:=omega) only [go_sem,seval]
   refine Zo (c4) ?_;simp (disch:=omega) only [go_sem,seval];refine Zo (c5) ?_;simp (disch:=omega) only [go_sem,seval]
   try simp (disch:=omega) only [eq_self,Vj,go_sem,seval]
   refine Zo (Dw) ?_;simp (disch:=omega) only [go_sem,seval]
end Go.Proofs.YtjkkdmeebhjaiaaGreatDoor.K
