/- Declarations that the closing texts need, part 18: joined by tools/slim.py. -/
import Derived.Test.YtjkkdmeebhjaiaaGreatDoorI17
import Derived.Shelf.Slices.In.SortNone
import Derived.Shelf.Sort.Plain
set_option linter.unusedVariables false
set_option linter.unusedSimpArgs false
namespace Go.Proofs.YtjkkdmeebhjaiaaGreatDoor.K
open Go Go.AM Go.Proofs
set_option maxRecDepth 8000
theorem It {x:Inst} (hx:InstOk x) {c:Col} (h:c∈XO x): ∃(k:Nat) (m:List Vis),k<x.types.length/\Fw x k m=true/\c=Uk x k (Ye m) m:=by
 obtain ⟨k,S,h1,h2,h3,h4,rfl⟩:=Az.1 h;have hf:=YB hx
 have hopn:0<=(nth x.types ((k:Nat):Int).toNat).opn:=by
  simp_all [W6]
 unfold Qp at h4 ⊢
 split at h4
 ·rename_i hc;rw [if_pos hc];have hS:S / pw x.orders.length=0:=Kj h3;have ha:Alw x S:=(Jx (by have:=hf.len;omega) hS hf.val).1 hc.1;rw [TD hx Za hS ha hopn] at hc ⊢;rcases CF _ _ hc.2 with ⟨e,_⟩ | ⟨m,m1,m2,m3⟩
  ·cases e
  ·have m3:(jL x (k:Int) S (VP,false)).1=_:=m3;simp only [okR,Zs,Zp] at m2;have hr:RightV x m:=WL (r:=Ax (k:Int) m) (Ux m2.2.2);have e:=m2.1;rw [hr.ord hf] at e
   grind
 ·simp at h4
theorem lM {α β:Type} [Inhabited α] [Inhabited β] {f:α->β} {l:List α} {i:Nat} (h:i<l.length):nth (l.map f) i=f (nth l i):=by
 grind [Zg]
set_option maxHeartbeats 2000000
def Ng (f:Nat->Nat) (z:Int):Int:=if 0<=z then (f z.toNat:Nat) else z
theorem OZ {f:Nat->Nat} {z:Int} :0<=Ng f z↔0<=z:=by unfold Ng;split<;>omega
theorem Ag {f:Nat->Nat} {a:List Int} {i:Nat} (h:i<a.length):nth (a.map (Ng f)) i=Ng f (nth a i):=lM h
structure Eas (x y:Inst) (l m:List Col) (f:Nat->Nat):Prop where
 len:y.orders.length=x.orders.length
 off: ∀k,k<x.orders.length->(nth y.orders k).off=(nth x.orders k).off
 col: ∀j,j<l.length->f j<m.length/\(nth m (f j)).typ=(nth l j).typ/\(nth m (f j)).set=(nth l j).set/\(nth m (f j)).price<=(nth l j).price
 cnt: ∀j,j<l.length->(nth x.types (nth l j).typ.toNat).count<=(nth y.types (nth l j).typ.toNat).count
 skp: ∀k,k<x.orders.length->(nth x.orders k).off=false->0<=(nth x.orders k).penalty->0<=(nth y.orders k).penalty/\skR y k<=skR x k
section
variable {x y : Inst} {l m : List Col} {f : Nat -> Nat} (h : Eas x y l m f)
include h
theorem Ov {a:List Int} (ha: ∀i,i<a.length->nth a i<l.length) {T:Int} : ∀n,n<=a.length->usdI m (a.map (Ng f)) T n<=usdI l a T n
 | 0,_=>Zw _
 | n+1,hn=>by
  have ih:=Ov ha (T:=T) n Za;rw [usdI,usdI]
  have hp:CG m (a.map (Ng f)) T n=true->CG l a T n=true:=by
   unfold CG;rw [Ag (show n<a.length by omega)];simp only [Zs,Zp];rintro ⟨h1,h2,h3⟩;have h0:=OZ.1 h1;have hj:=h.col (nth a n).toNat (by have:=ha n Za;omega)
   have e:(Ng f (nth a n)).toNat=f (nth a n).toNat:=by unfold Ng;rw [if_pos h0];omega
   rw [e,hj.2.1] at h2;refine ⟨h0,h2,?_⟩;rw [AR] at h3 ⊢;intro t ht he;refine h3 t ht ?_;rw [Ag Za,Ag Za,he]
  split
  ·rename_i c;rw [if_pos (hp c)];omega
  ·split<;>omega
theorem kD {a:List Int} {j:Nat} (hj:j<l.length):(V9 (nth l j).set.toNat a j).map (Ng f)=V9 (nth m (f j)).set.toNat (a.map (Ng f)) (f j:Nat):=by
 refine Us (by simp [V9]) fun i h1 h2=> ?_
 have hi:i<a.length:=by simpa [V9] using h1
 rw [<- Zg h1,<- Zg h2,Ag (by simpa [V9] using hi),Xl hi,Xl (by simpa using hi),(h.col j hj).2.2.1,Ag hi]
 split
 ·unfold Ng;rw [if_pos Za];simp
 ·rfl
theorem kC {a:List Int} {j k:Nat} (ha: ∀i,i<a.length->nth a i<l.length) (hj:j<l.length) (hc:BZ x l a j k=true):BZ y m (a.map (Ng f)) (f j) k=true:=by
 obtain ⟨c1,c2,c3,_⟩:=h.col j hj;unfold BZ at hc ⊢;simp only [Zs,Zp,Ds] at hc ⊢;obtain ⟨h1,h2,h3⟩:=hc;rw [c2,c3,ZB];refine ⟨h1,?_,fun i hi hb=> ?_⟩
 ·have u:=Ov h ha (T:=(nth l j).typ) a.length (Zw _);have:=h.cnt j hj;omega
 ·obtain ⟨g1,g2⟩:=h3 i hi hb;rw [Ag hi];refine ⟨?_,g2⟩;unfold Ng;rw [if_neg Za];exact g1
theorem C7 : ∀(d:Nat) (a:List Int) (p p':Int),d<=x.orders.length->a.length=x.orders.length->(∀i,i<a.length->nth a i<l.length)->p'<=p-> ∀q∈Aw x l d a p,∃q'∈Aw y m d (a.map (Ng f)) p',q'.2<=q.2
 | 0,a,p,p',_,_,_,hp,q,hq=>by
  simp only [Aw,Z4,W0,Wl] at hq;subst hq;exact ⟨_,by simp only [Aw];exact List.mem_cons_self ..,hp⟩
 | d+1,a,p,p',hd,hl,ha,hp,q,hq=>by
  have hk:x.orders.length-(d+1)<x.orders.length:=Za
  rw [Aw] at hq;rw [Aw,h.len,h.off _ hk,Ag Za];simp only [OZ]
  by_cases c:(nth x.orders (x.orders.length-(d+1))).off=true\/0<=nth a (x.orders.length-(d+1))
  ·rw [if_pos c] at hq ⊢;exact C7 d a p p' Za hl ha hp q hq
  ·rw [if_neg c] at hq ⊢;rcases Z5.1 hq with hq | hq
   ·obtain ⟨j,hj,hq⟩:=XS.1 hq;have hj:=ZO.1 hj
    split at hq
    ·rename_i hc;obtain ⟨c1,c2,c3,c4⟩:=h.col j hj
     obtain ⟨q',h1,h2⟩:=C7 d (V9 (nth l j).set.toNat a j) (p+(nth l j).price) (p'+(nth m (f j)).price) Za (by rw [QD];exact hl) (fun i hi=>by
      rw [QD] at hi;rw [Xl hi]
      split
      ·omega
      ·exact ha i hi) Za q hq
     rw [kD h hj] at h1;refine ⟨q',List.mem_append_left _ (XS.2 ⟨f j,ZO.2 c1,?_⟩),h2⟩;rw [if_pos (kC h ha hj hc)];exact h1
    ·simp at hq
   ·split at hq
    ·rename_i hc;obtain ⟨s1,s2⟩:=h.skp _ hk (by simpa using fun e=>c (.inl e)) hc;obtain ⟨q',h1,h2⟩:=C7 d a (p+skR x (x.orders.length-(d+1))) (p'+skR y (x.orders.length-(d+1))) Za hl ha Za q hq;refine ⟨q',List.mem_append_right _ ?_,h2⟩;rw [if_pos s1];exact h1
    ·simp at hq
end
theorem GI {l:List Col} : ∀(L:List (List Int×Int)) (b:Chc),(b.found=true->(L.foldl (UG l) b).found=true/\(L.foldl (UG l) b).price<=b.price)/\(∀q∈L,(L.foldl (UG l) b).found=true/\(L.foldl (UG l) b).price<=q.2)/\((L.foldl (UG l) b).found=true->L.foldl (UG l) b=b\/ ∃q∈L,(L.foldl (UG l) b).price=q.2)
 | [],b=>⟨fun h=>⟨h,Yr _⟩,fun q hq=>by simp at hq,fun _=> .inl rfl⟩
 | q::L,b=>by
  rw [Yh];obtain ⟨i1,i2,i3⟩:=GI (l:=l) L (UG l b q)
  have hf:(UG l b q).found=true/\(UG l b q).price<=q.2/\(b.found=true->(UG l b q).price<=b.price)/\(UG l b q=b\/(UG l b q).price=q.2):=by
   unfold UG
   split
   ·rename_i c;refine ⟨rfl,Yr _,fun hb=> ?_,.inr rfl⟩
    show q.2<=b.price
    rcases c with c | c | c
    ·rw [hb] at c;cases c
    ·omega
    ·omega
   ·rename_i c
    have c1:b.found=true:=by
     cases hb:b.found with
     | true=>rfl
     | false=>exact absurd (.inl hb) c
    refine ⟨c1,?_,fun _=>Yr _,.inl rfl⟩;exact Int.not_lt.1 fun g=>c (.inr (.inl g))
  obtain ⟨f1,f2,f3,f4⟩:=hf;obtain ⟨g1,g2⟩:=i1 f1;refine ⟨fun hb=>⟨g1,Int.le_trans g2 (f3 hb)⟩,fun q' hq=> ?_,fun hfo=> ?_⟩
  ·rcases Z4.1 hq with rfl | hq
   ·exact ⟨g1,Int.le_trans g2 f2⟩
   ·exact i2 q' hq
  ·rcases i3 hfo with e | ⟨q',hq,e⟩
   ·rcases f4 with f4 | f4
    ·exact .inl (e.trans f4)
    ·exact .inr ⟨q,Zb,by rw [e];exact f4⟩
   ·exact .inr ⟨q',Yp _ hq,e⟩
noncomputable def Fj (x:Inst):List (List Int×Int):=Aw x (XO x) x.orders.length (List.replicate x.orders.length (-1)) 0
theorem KC {x:Inst} (hx:InstOk x) (hn:x.orders.length<=4):(Ym x=24/\KS x=0/\Fj x= [])\/(Ym x=0/\(∃q∈Fj x,KS x=q.2)/\ ∀q∈Fj x,KS x<=q.2):=by
 obtain ⟨hl,_⟩:=GX hn (zA hx);have hr:=Sp hx hn;obtain ⟨u1,u2,u3⟩:=GI (l:=XO x) (Fj x) zCh;have ea:GW x (XO x)=(Fj x).foldl (UG (XO x)) zCh:=rfl;rw [<- ea] at u1 u2 u3;obtain ⟨b,hb,h1,h2⟩:=Pq x;rcases hb with ⟨k1,_⟩ | ⟨_,⟨c,kc,k2⟩,_⟩ | ⟨_,_,k3⟩
 ·omega
 ·rw [hr c kc] at k2;cases k2
 ·rcases k3 with ⟨k4,rfl,k5⟩ | ⟨k4,rfl,k5⟩
  ·refine .inl ⟨k5,(h1 (by rw [k5];decide)).2,?_⟩
   cases hc:Fj x with
   | nil=>rfl
   | cons q L =>
    have:=(u2 q (by rw [hc];simp)).1;rw [k4] at this;cases this
  ·have e:=(h2 k5).1;have e:KS x=(GW x (XO x)).price:=e;refine .inr ⟨k5,?_,fun q hq=>by rw [e];exact (u2 q hq).2⟩;rcases u3 k4 with g | ⟨q,hq,g⟩
   ·rw [g] at k4;cases k4
   ·exact ⟨q,hq,by rw [e];exact g⟩
theorem Pr {x y:Inst} {f:Nat->Nat} (hx:InstOk x) (hy:InstOk y) (hn:x.orders.length<=4) (h:Eas x y (XO x) (XO y) f) (h0:Ym x=0):Ym y=0/\KS y<=KS x:=by
 rcases KC hx hn with ⟨g,_⟩ | ⟨_,⟨q,hq,e⟩,_⟩
 ·omega
 ·obtain ⟨q',h1,h2⟩:=C7 h x.orders.length (List.replicate x.orders.length (-1)) 0 0 (Zw _) Zb (fun i hi=>by
   rw [HI (by simpa using hi)];omega) (Yr _) q hq
  have em:(List.replicate x.orders.length (-1:Int)).map (Ng f)=List.replicate y.orders.length (-1):=by
   rw [A7,h.len];rfl
  rw [em] at h1
  have h1:q'∈Fj y:=by unfold Fj;rw [h.len] at h1 ⊢;exact h1
  rcases KC hy (by rw [h.len];exact hn) with ⟨_,_,g⟩ | ⟨g,_,g2⟩
  ·rw [g] at h1;simp at h1
  ·refine ⟨g,?_⟩;have:=g2 q' h1;omega
theorem BK {x:Inst} (hx:InstOk x) (hn:x.orders.length<=4):Ym x=0\/Ym x=24:=by
 rcases KC hx hn with h | h
 ·exact .inr h.1
 ·exact .inl h.1
theorem On {x y:Inst} (hx:InstOk x) (hy:InstOk y) (ht:y.types.length=x.types.length) (hp: ∀(k:Nat) (m:List Vis),k<x.types.length->(YS x (Ax k m)).2=0->(YS y (Ax k m)).2=0/\(YS y (Ax k m)).1<=(YS x (Ax k m)).1) :
  ∃f:Nat->Nat,∀j,j<(XO x).length->(∃k:Nat,k<x.types.length/\(nth (XO x) j).typ=(k:Int))/\f j<(XO y).length/\(nth (XO y) (f j)).typ=(nth (XO x) j).typ/\(nth (XO y) (f j)).set=(nth (XO x) j).set/\(nth (XO y) (f j)).price<=(nth (XO x) j).price:=by
 have H: ∀j,j<(XO x).length-> ∃i,(∃k:Nat,k<x.types.length/\(nth (XO x) j).typ=(k:Int))/\i<(XO y).length/\(nth (XO y) i).typ=(nth (XO x) j).typ/\(nth (XO y) i).set=(nth (XO x) j).set/\(nth (XO y) i).price<=(nth (XO x) j).price:=fun j hj=>by
  obtain ⟨k,m,h1,h2,h3⟩:=It hx (Zz hj);have h4:(YS x (Ax (k:Int) m)).2=0:=Ba h2;obtain ⟨h5,h6⟩:=hp k m h1 h4;obtain ⟨i,i1,i2,i3,i4⟩:=TX hy h5 ⟨by show (0:Int)<=(k:Int);omega,by show (k:Int)<_;omega⟩ rfl rfl;rw [h3];exact ⟨i,⟨k,h1,rfl⟩,i1,i2,i3,Int.le_trans i4 h6⟩
 classical
 exact ⟨fun j=>if g:j<(XO x).length then Classical.choose (H j g) else 0,fun j g=>by
  simp only [dif_pos g];exact Classical.choose_spec (H j g)⟩
theorem Eo {x:Inst} {l:List Col} (h: ∀k,k<x.orders.length->(nth x.orders k).off=false->0<=(nth x.orders k).penalty): ∀(d:Nat) (a:List Int) (p:Int),d<=x.orders.length->Aw x l d a p≠ []
 | 0,a,p,_=>by simp [Aw]
 | d+1,a,p,hd=>by
  rw [Aw]
  split
  ·exact Eo h d a p Za
  ·rename_i c;have:=h (x.orders.length-(d+1)) Za (by simpa using fun e=>c (.inl e));rw [if_pos this];intro e;exact Eo h d a _ Za (Uq.1 e).2
theorem fM {x:Inst} (hx:InstOk x) (hn:x.orders.length<=4) (h: ∀k,k<x.orders.length->(nth x.orders k).off=false->0<=(nth x.orders k).penalty):Ym x=0:=by
 rcases KC hx hn with ⟨_,_,g⟩ | g
 ·exact absurd g (Eo h _ _ _ (Zw _))
 ·exact g.1
theorem Wh {x:Inst} {l:List Itm} :(Zl x l).orders.length=x.orders.length/\(Zl x l).types.length=x.types.length:=⟨Yi _ _,Y0 _ _⟩
theorem Pp {x y:Inst} {k:Nat} (hl:y.orders.length=x.orders.length) (ho:(nth y.orders k).off=(nth x.orders k).off) (hw:(nth y.orders k).now=(nth x.orders k).now) (hp:(nth y.orders k).penalty=(nth x.orders k).penalty):skR y k=skR x k:=by
 unfold skR Ws;rw [hl,Xn,ho,hw,hp]
theorem L5 {x:Inst} {l:List Itm} (hx:InstOk x) (hn:x.orders.length<=4) (hI: ∀v∈l,XI x v=true) (h:Ym x=0):Ym (Zl x l)=0/\KS (Zl x l)<=KS x:=by
 have hy:=Jl hx hI;obtain ⟨ol,tl⟩:=Wh (x:=x) (l:=l);have on: ∀i,i<x.orders.length->nth (Zl x l).orders i=YE (nth x.orders i) i l:=fun i h=>ZF h;have tn: ∀i,i<x.types.length->nth (Zl x l).types i=Yx (nth x.types i) i l:=fun i h=>Yj h;obtain ⟨f,hf⟩:=On hx hy tl fun k m _ he=>Nr hx hy hI he;refine Pr hx hy hn (f:=f) ⟨ol,fun k hk=>by rw [on k hk];rfl,fun j hj=>(hf j hj).2,fun j hj=> ?_,fun k hk ho hp=> ?_⟩ h
 ·obtain ⟨⟨k,hk,e⟩,_⟩:=hf j hj;have hc:=hx.types.2 k hk;unfold VW at hc;have hc:=hc.1.1.1.1.1.1.2;rw [Kx] at hc;rw [e,Xn,tn k hk];simp only [Yx]
  split<;>omega
 ·have hn10:(⟨10,((k:Nat):Int)⟩:Itm) ∉ l:=fun hm=>by
   have h1:=hI _ hm;rw [JG Zb] at h1;have h2:=h1.2;simp [KQ] at h2;omega
  have e1:(nth (Zl x l).orders k).penalty=(nth x.orders k).penalty:=by rw [on k hk];simp only [YE];rw [if_neg hn10]
  refine ⟨Za,?_⟩;rw [Pp ol (by rw [on k hk];rfl) (by rw [on k hk];rfl) e1];exact Yr _
theorem fL {x:Inst} {L L':List Itm} (hx:InstOk x) (hn:x.orders.length<=4) (hI: ∀v∈L',XI x v=true) (hs: ∀v∈L,v∈L') (h:Ym (Zl x L)=0):Ym (Zl x L')=0/\KS (Zl x L')<=KS (Zl x L):=by
 rw [<- Ig hs hI];exact L5 (Jl hx fun v hv=>hI v (hs v hv)) (by rw [Wh.1];exact hn) (bB hI) h
structure PenE (x y:Inst):Prop where
 net:y.net=x.net
 typ:y.types=x.types
 ap:y.apart=x.apart
 be:y.before=x.before
 len:y.orders.length=x.orders.length
 ord: ∀j,∃q,nth y.orders j= { nth x.orders j with penalty:=q }
section
variable {x y : Inst} (h : PenE x y)
include h
theorem Fx (j:Nat):(nth y.orders j).pick=(nth x.orders j).pick/\(nth y.orders j).drp=(nth x.orders j).drp/\(nth y.orders j).off=(nth x.orders j).off/\(nth y.orders j).load=(nth x.orders j).load/\(nth y.orders j).skills=(nth x.orders j).skills/\(nth y.orders j).last=(nth x.orders j).last/\(nth y.orders j).now=(nth x.orders j).now/\(nth y.orders j).name=(nth x.orders j).name/\(nth y.orders j).split=(nth x.orders j).split:=by
 obtain ⟨q,e⟩:=h.ord j;rw [e];exact ⟨rfl,rfl,rfl,rfl,rfl,rfl,rfl,rfl,rfl⟩
theorem mO (i:Nat):Z2 y.orders i=Z2 x.orders i:=by
 unfold Z2;obtain ⟨h1,h2,_⟩:=Fx h i;rw [h1,h2]
theorem yB (l:List Vis):Xt y l=Xt x l:=by
 have e1:V7 y=V7 x:=by funext v;unfold V7;rw [h.len]
 have e2:(fun v:Vis=>(nth y.orders v.order.toNat).off)=fun v=>(nth x.orders v.order.toNat).off:=by funext v;exact (Fx h _).2.2.1
 have e3:pairB y.orders l=pairB x.orders l:=by funext v;unfold pairB;rw [mO h]
 unfold Xt;rw [e1,e2,e3,h.ap,h.be]
theorem xZ (l:List Vis) (n:Nat):Wy y l n=Wy x l n:=by
 unfold Wy;rw [h.typ];refine Y3 fun j _=> ?_;unfold CA;rw [h.len]
 congr 1
 refine Y3 fun i _=> ?_;unfold Gf;obtain ⟨h1,h2,_,h4,_⟩:=Fx h i;rw [h1,h4]
theorem mN (l:List Vis):ZS y l=ZS x l:=by
 unfold ZS;refine Y3 fun v _=> ?_;unfold Xg;obtain ⟨h1,h2,_⟩:=Fx h v.order.toNat;rw [h1,h2]
theorem dR : nxtF y=nxtF x:=by
 funext t sp k L b
 unfold nxtF BR;rw [h.net]
theorem mL : Xp y=Xp x:=by
 funext t sp k L b
 unfold Xp;rw [dR h]
theorem dS (t:Typ) (sp:List Stp): ∀(bs:List Bool) (k:Nat) (L:Lab),Xf y t sp k L bs=Xf x t sp k L bs
 | [],_,_=>by rw [Xf,Xf]
 | b::bs,k,L=>by
  rw [Xf,Xf,dR h]
  split
  ·exact dS t sp bs _ _
  ·rfl
theorem mK (t:Typ) (sp:List Stp) (st:Int) (r:List Bool):XU y t sp st r=XU x t sp st r:=by
 unfold XU;rw [mL h]
 split
 ·rfl
 ·rw [dS h]
theorem mM (r:Rte):Yf y r=Yf x r:=by
 have e1:ZG y r=ZG x r:=by unfold ZG;rw [h.typ]
 have e2:(fun v:Vis=> !YK (ZG x r) (nth y.orders v.order.toNat).skills)=fun v=> !YK (ZG x r) (nth x.orders v.order.toNat).skills:=by funext v;rw [(Fx h _).2.2.2.2.1]
 have e3:Qx y (ZG x r).cap r.visits=Qx x (ZG x r).cap r.visits:=by
  unfold Qx
  congr 1
  funext n
  rw [xZ h]
 unfold Yf;rw [e1,e2,e3,yB h,h.typ]
theorem LJ (r:Rte):XV y r=XV x r:=by
 unfold XV;rw [mK h,mN h,show ZG y r=ZG x r by unfold ZG;rw [h.typ]]
theorem Pa (r:Rte):XH y r=XH x r:=by
 unfold XH;rw [mM h,LJ h]
theorem dO (l:List Vis) (t:Int): ∀n,chgF y l t n=chgF x l t n
 | 0=>by rw [chgF,chgF]
 | n+1=>by
  have h1:=Fx h (nth l n).order.toNat;rw [chgF,chgF,dO l t n,h1.2.2.2.2.2.1,h1.2.2.2.2.2.2.1]
theorem dP (r:Rte):Y9 y r=Y9 x r:=by
 unfold Y9 EW;rw [Pa h,LJ h,dO h,show ZG y r=ZG x r by unfold ZG;rw [h.typ]]
theorem yA (r:Rte):YS y r=YS x r:=by
 unfold YS;rw [Pa h,dP h]
theorem dT (hx:InstOk x) (hy:InstOk y) (hn:x.orders.length<=4) (hp: ∀j,j<x.orders.length->(nth x.orders j).off=false->(nth y.orders j).penalty=(nth x.orders j).penalty\/(nth y.orders j).penalty= -1) (he:Ym y=0):Ym x=0/\KS x<=KS y:=by
 obtain ⟨f,hf⟩:=On hy hx (by rw [h.typ]) fun k m _ hk=>by rw [yA h] at hk ⊢;exact ⟨hk,Yr _⟩
 refine Pr hy hx (by rw [h.len];exact hn) (f:=f) ⟨h.len.symm,fun k _=>(Fx h k).2.2.1.symm,fun j hj=>(hf j hj).2,fun j hj=>by rw [h.typ];exact Yr _,fun k hk ho hq=> ?_⟩ he;rw [h.len] at hk;rw [(Fx h k).2.2.1] at ho;have h1:=hp k hk ho
 have h2:(nth x.orders k).penalty=(nth y.orders k).penalty:=Za
 refine ⟨Za,?_⟩;rw [Pp h.len.symm (Fx h k).2.2.1.symm (Fx h k).2.2.2.2.2.2.1.symm h2];exact Yr _
end
theorem dQ (x:Inst):PenE x (Zl x [])/\PenE (Zl x []) x:=by
 rw [Jk];exact ⟨⟨rfl,rfl,rfl,rfl,rfl,fun j=>⟨(nth x.orders j).penalty,rfl⟩⟩,⟨rfl,rfl,rfl,rfl,rfl,fun j=>⟨(nth x.orders j).penalty,rfl⟩⟩⟩
theorem SD {x:Inst} (hx:InstOk x) (hn:x.orders.length<=4):Ym (Zl x [])=Ym x:=by
 have hy:InstOk (Zl x []):=Jl hx Zb;obtain ⟨f1,f2⟩:=dQ x
 have e: ∀j,(nth (Zl x []).orders j).penalty=(nth x.orders j).penalty:=fun j=>by rw [Jk]
 have a:=dT f1 hx hy hn (fun j _ _=> .inl (e j));have b:=dT f2 hy hx (by rw [Wh.1];exact hn) (fun j _ _=> .inl (e j).symm);have c:=BK hx hn;have d:=BK hy (by rw [Wh.1];exact hn);rcases c with c | c<;>rcases d with d | d
 ·omega
 ·have:=(b c).1;omega
 ·have:=(a d).1;omega
 ·omega
def KR (x:Inst) (l:List Itm):List Itm:=(Yw x 10).filter fun v=>decide (v ∉ l)
def XX (x:Inst) (l:List Itm):Inst:=Zl x (KR x l)
def C2 (x:Inst) (l:List Itm):Inst:=if U0 x l=0 then XX x l else zeroI
theorem JM {x:Inst} {l:List Itm} {v:Itm} :v∈KR x l↔XI x v=true/\v ∉ l:=by
 rw [KR,Ja,Uv,Zp]
theorem Bs {x:Inst} {l:List Itm} : ∀v∈KR x l,XI x v=true:=fun _ h=>(JM.1 h).1
theorem EL (x:Inst):(Yw x 10).Nodup:=(JX x 10).imp fun {a b} h e=>by
 subst e;rw [VZ] at h;omega
theorem LF (x:Inst) (l:List Itm):U0 x (KR x l)=0:=IU.2 ⟨Bs,(EL x).filter _⟩
theorem BB {x:Inst} {l:List Itm} (h:l.Sublist (Yw x 10)):U0 x l=0:=IU.2 ⟨fun v hv=>Uv.1 (h.subset hv),(EL x).sublist h⟩
theorem QZ {x:Inst} {l:List Itm} (hx:InstOk x):InstOk (XX x l):=Jl hx Bs
theorem Ei {x:Inst} {l:List Itm} :(XX x l).orders.length=x.orders.length:=Wh.1
theorem Le {x:Inst} :XX x (Yw x 10)=Zl x []:=by
 have:KR x (Yw x 10)= []:=by
  rw [KR,List.filter_eq_nil_iff];intro v hv;simp [hv]
 rw [XX,this]
theorem RN {x:Inst} {A B:List Itm} (hx:InstOk x) (hn:x.orders.length<=4) (h: ∀v∈A,v∈B) (he:Ym (XX x B)=0):Ym (XX x A)=0 :=
 (fL hx hn Bs (fun v hv=>by rw [JM] at hv ⊢;exact ⟨hv.1,fun g=>hv.2 (h v g)⟩) he).1
theorem bR {x:Inst} (hx:InstOk x) (hn:x.orders.length<=4):Ym (XX x (Yw x 10))=Ym x:=by rw [Le];exact SD hx hn
theorem bS {x:Inst} (hx:InstOk x) (hn:x.orders.length<=4) (l:List Itm):Ym (XX x l)=0\/Ym (XX x l)=24:=BK (QZ hx) (by rw [Ei];exact hn)
noncomputable def Jt (x:Inst):Nat->List Itm->Nat->List Itm
 | 0,l,_=>l
 | f+1,l,k=>if k<l.length then (if Ym (XX x (l.eraseIdx k))=24 then Jt x f (l.eraseIdx k) k else Jt x f l (k+1)) else l
noncomputable def cH (x:Inst):List Itm:=Jt x (Yw x 10).length (Yw x 10) 0
noncomputable def Nc (x:Inst):List Itm:=if Ym x=24 then cH x else []
noncomputable def Nb (x:Inst):Int:=if Ym x=24 then 0 else 9
set_option maxRecDepth 60000
set_option maxHeartbeats 8000000
theorem AH (l:List Itm) (c:Bool) (v:Itm) (hl:l.length<=1048576):PC 30 [.p (.list c (l.map Yb)),.p (Yb v)] (.bool (decide (v∈l))):=by
 refine Zc Tryz.func30 rfl Zeo ?_;simp (disch:=omega) only [Tryz.f30,go_sem,seval];refine Zn [3,7,8] (fun k:Nat=> [(9,.p (.int .i64 k))]) (fun _=> [.cells [.p (.int .i64 v.kind),.p (.int .i64 v.a)]]) (fun k=>k<=l.length/\ ∀j,j<k-> ¬nth l j=v) (fun k=>l.length-k) 0 Zb (Weak.mk ?_) ?_
 ·simp (disch:=omega) only [go_sem,seval]
 ·rintro k ⟨hk,hno⟩;simp (disch:=omega) only [go_sem,seval];refine cD ?_ ?_<;>intro h<;>simp (disch:=omega) only [Sh.out h,go_sem,seval]
  ·have hk2:k<l.length:=Za
   refine cD ?_ ?_<;>intro h2<;>simp (disch:=omega) only [Sh.out h2,go_sem,seval]
   ·have:nth l k=v:=by rw [XP];first | omega | (simp at h2;omega)
    have hm:v∈l:=this ▸ Zz hk2;simp [hm]
   ·have: ¬nth l k=v:=by rw [XP];first | omega | (simp at h2;omega)
    exact ⟨k+1,⟨Za,ZR.2 ⟨hno,this⟩⟩,Za,wk⟩
  ·have hkl:k=l.length:=Za
   subst hkl
   have hm:v ∉ l:=fun hm=>by
    obtain ⟨j,hj,e⟩:=Z1.1 hm;exact hno j hj (by rw [Zg hj];exact e)
   simp [hm]
theorem Mi (l:List Itm) (c:Bool) (i:Nat) (hi:i<l.length) (hl:l.length<=1048576):PC 47 [.p (.list c (l.map Yb)),.p (.int .i64 i)] (.list false ((l.eraseIdx i).map Yb)):=by
 refine ACalls.frozen (S:=2) (n:=(l.eraseIdx i).length) Zb ?_
 suffices hh:ACalls Tryz.prog 47 [.p (.list c (l.map Yb)),.p (.int .i64 i)] [] fun y H'=> ∃m:List Itm,m=l.eraseIdx i/\y= .sl 0 0 m.length m.length/\H'= [.elems 2 (m.map Yb)] by
  refine hh.mono ?_;rintro x H' ⟨m,rfl,h1,h2⟩;exact ⟨h1,h2⟩
 have t1:(l.take i).length<=1048576:=by simp;omega
 have t2:(l.drop (i+1)).length<=1048576:=by simp;omega
 refine ZM [1] Tryz.func47 rfl ZeD ?_;simp (disch:=omega) only [Tryz.f47,go_sem,seval];refine Wj (G6 2 rfl rfl ?_);simp (disch:=omega) only [go_sem,seval];refine ⟨_,_,R8 34 41 _ _ l.length 16 2 (.agg [.int .i64 0,.int .i64 0]) rfl Ze Ze Ze Ze Za (by rfl) (by rfl) Za Za (by simp (disch:=omega) only [go_sem,seval]) (by simp (disch:=omega) only [go_sem,seval]),?_⟩;simp (disch:=omega) only [go_sem,seval];refine Zf [] _ _ _ _ ?_;simp (disch:=omega) only [X5,go_sem,seval]
 refine ⟨l.eraseIdx i,rfl,0,?_⟩;rw [List.eraseIdx_eq_take_drop_succ];simp (disch:=omega) only [Yg,Zy,go_sem,seval]
theorem T9 {α:Type} [Inhabited α] {p:α->Bool} {l:List α} {k:Nat} (h:k<l.length):(l.take (k+1)).filter p=(l.take k).filter p++if p (nth l k)=true then [nth l k] else []:=by
 rw [Yu h,List.filter_append,<- Zg h]
 congr 1
 rw [Dh]
 split<;>simp
theorem dA (x:Inst) (l:List Itm):(KR x l).length<=(Yw x 10).length:=List.length_filter_le _ _
theorem dB (x:Inst) (l:List Itm):HU x (KR x l)=XX x l:=by rw [HU,if_pos (LF x l)];rfl
theorem Cb (x:Inst) (hx:InstOk x) (l:List Itm) (c:Bool) (hl:l.length<=1048576):PT 11 [.p (ZW x),.p (.list c (l.map Yb))] [.p (ZW (C2 x l)),.p (.int .i64 (U0 x l))]:=by
 have hs:=AW hx;have hcap:=bE hx;have hrl:=QC hs;have zI:ZW zeroI= .agg [.list true [],.list true [],.list true [],.list true [],.list true [],.list true []]:=rfl;refine Zj [10] Tryz.func11 rfl Zeh ?_;simp (disch:=omega) only [Tryz.f11,go_sem,seval];refine XG [10] [1,2,4,11,12] (fun k:Nat=> [(13,.p (.int .i64 k))]) (fun _=> [Zh x,Zh zeroI]) (fun k=>k<=l.length/\ ∀j,j<k->Wp x l j=0) (fun k=>l.length-k) 0 Zb (Weak.mk ?_) ?_
 ·simp (disch:=omega) only [Zh,zeroI,Zm,go_sem,seval]
 ·rintro k ⟨hk,hno⟩;simp (disch:=omega) only [Zh,zeroI,Zm,go_sem,seval];refine cD ?_ ?_<;>intro h<;>simp (disch:=omega) only [Sh.out h,go_sem,seval]
  ·have hk2:k<l.length:=Za
   refine (kY x hs (nth l k)).use ?_;simp (disch:=omega) only [go_sem,seval];refine cD ?_ ?_<;>intro h2<;>simp (disch:=omega) only [Sh.out h2,zI,go_sem,seval]
   ·have h3:XI x (nth l k)=false:=by simpa using h2
    have e0:Wp x l k=7:=by rw [Wp,h3];rfl
    have e:U0 x l=7:=by rw [AL hk2 hno (by rw [e0];decide),e0]
    have r:C2 x l=zeroI:=by rw [C2,e];rfl
    simp only [e,r,zeroI,Zm];exact we
   ·have h3:XI x (nth l k)=true:=by simpa using h2
    refine XN ?_;simp (disch:=omega) only [go_sem,seval];refine Zo (AH (l.take k) _ (nth l k) (by simp;omega)) ?_;simp (disch:=omega) only [go_sem,seval];refine cD ?_ ?_<;>intro h4<;>simp (disch:=omega) only [Sh.out h4,go_sem,seval]
    ·have e0:Wp x l k=6:=by rw [Wp,if_pos h3,if_pos h4]
     have e:U0 x l=6:=by rw [AL hk2 hno (by rw [e0];decide),e0]
     have r:C2 x l=zeroI:=by rw [C2,e];rfl
     simp only [e,r,zeroI,Zm];exact we
    ·exact ⟨k+1,⟨Za,ZR.2 ⟨hno,Vg.2 ⟨h3,h4⟩⟩⟩,Za,Weak.mk (by simp (disch:=omega) only [Zh,zeroI,Zm,go_sem,seval])⟩
  ·have hkl:k=l.length:=Za
   subst hkl;have e:U0 x l=0:=Hh hno
   have r:C2 x l=XX x l:=by rw [C2,if_pos e]
   rw [e,r];have c1:=mX x hs hcap (KR x l) false (by have:=dA x l;omega);rw [dB,LF] at c1;have ho: ∀m,m<=(Yw x 10).length->((Yw x 10).take m).filter (fun v=>decide (v ∉ l))=((Yw x 10).take m).filter (fun v=>decide (v ∉ l)):=fun _ _=>rfl;have c2:=Hu x hs;have hout:KR x l=(Yw x 10).filter fun v=>decide (v ∉ l):=rfl;rw [hout] at c1;generalize Yw x 10=R at c1 c2 hrl;generalize XX x l=Y at c1;refine Zr (Weak.ofNil 8 2 (by simp (disch:=omega) only [go_sem,seval]) Zb (Weak.refl _ _ _)) ?_;refine Zf [16] _ _ _ _ ?_
   simp (disch:=omega) only [Zh,zeroI,Zm,go_sem,seval];refine (c2).use ?_;simp (disch:=omega) only [go_sem,seval];refine XG [16] [1,2,4,31,32] (fun q:Nat×List Itm=> [(8,.sl 2 0 q.2.length q.2.length),(33,.p (.int .i64 q.1))]) (fun q=> [Zh x,Zh zeroI,.elems 2 (q.2.map Yb)]) (fun q=>q.1<=R.length/\q.2=(R.take q.1).filter fun v=>decide (v ∉ l)) (fun q=>R.length-q.1) (0,[]) ⟨Zb,Zb⟩ (Weak.mk ?_) ?_
   ·simp (disch:=omega) only [Zh,zeroI,Zm,go_sem,seval]
   ·rintro ⟨k,m⟩ ⟨hk,hm⟩;simp only at hk hm
    have hml:m.length<=k:=by
     have h1:=List.length_filter_le (fun v=>decide (v ∉ l)) (R.take k);rw [<- hm,Xy] at h1;omega
    simp (disch:=omega) only [Zh,zeroI,Zm,go_sem,seval];refine cD ?_ ?_<;>intro h5<;>simp (disch:=omega) only [Sh.out h5,go_sem,seval]
    ·have hk2:k<R.length:=Za
     have hsu:=T9 (p:=fun v=>decide (v ∉ l)) hk2;refine (AH l c (nth R k) hl).use ?_;simp (disch:=omega) only [go_sem,seval];refine cD ?_ ?_<;>intro h6<;>simp (disch:=omega) only [Sh.out h6,go_sem,seval]
     ·exact ⟨(k+1,m++ [nth R k]),⟨by simp only;omega,by simp only [hsu,hm];rw [if_pos (by simpa using h6)]⟩,by simp only;omega,Weak.mk (by simp (disch:=omega) only [Zh,zeroI,Zm,go_sem,seval])⟩
     ·exact ⟨(k+1,m),⟨by simp only;omega,by simp only [hsu,hm];rw [if_neg (by simpa using h6),VM]⟩,by simp only;omega,Weak.mk (by simp (disch:=omega) only [Zh,zeroI,Zm,go_sem,seval])⟩
    ·have hkl:k=R.length:=Za
     subst hkl;rw [X5] at hm;rw [<- hm] at c1;refine Zr (Weak.fz (o:=2) (by rfl)) ?_;refine Zf [] _ _ _ _ ?_;simp (disch:=omega) only [Zt,Zm,Z7,ZX,Zh,zeroI,go_sem,seval];refine J2 c1 ?_;simp (disch:=omega) only [Zh,zeroI,Zm,go_sem,seval];exact we
theorem ZfT (x:Inst) (hx:InstOk x) (hn:x.orders.length<=4):ACalls Tryz.prog 43 [.p (ZW x)] [] fun y H'=> ∃p c e,(c=KS x/\e=Ym x)/\y= .tup [.p (C1 p),.p (.int .i64 c),.p (.int .i64 e)]/\H'= []:=by
 have hs:=AW hx;refine (fN x hx hn (by have:=hs.be;omega) (by have:=hs.ap;omega)).mono fun y H' h=> ?_;obtain ⟨p,_,rfl,rfl⟩:=h;exact ⟨p,_,_,⟨rfl,rfl⟩,rfl,rfl⟩
theorem HP (x:Inst) (hx:InstOk x) (hn:x.orders.length<=4):PT 14 [.p (ZW x)] [.p (.bool (decide (Ym x=0))),.p (.int .i64 0)]:=by
 have c1:=ZfT x hx hn;have h:=BK hx hn;generalize Ym x=e at c1 h;generalize KS x=c at c1;refine Zj [] Tryz.func14 rfl Zek ?_;simp (disch:=omega) only [Tryz.f14,go_sem,seval];refine fY c1 fun p c' e' hR=> ?_;obtain ⟨rfl,rfl⟩:=hR;rcases h with rfl | rfl
 ·simp (disch:=omega) only [go_sem,seval];exact we
 ·simp (disch:=omega) only [go_sem,seval];exact we
noncomputable def MR (x:Inst) (l:List Itm):Bool:=decide (U0 x l=0)&&decide (Ym (XX x l)=24)
theorem jW (x:Inst) (hx:InstOk x) (hn:x.orders.length<=4) (l:List Itm) (c:Bool) (hl:l.length<=1048576):PT 46 [.p (ZW x),.p (.list c (l.map Yb))] [.p (.bool (MR x l)),.p (.int .i64 (U0 x l))]:=by
 have c1:=Cb x hx l c hl;have c2:=HP (XX x l) (QZ hx) (by rw [Ei];exact hn);have h:=bS hx hn l;refine Zj [] Tryz.func46 rfl ZeC ?_;simp (disch:=omega) only [Tryz.f46,go_sem,seval];refine J2 c1 ?_;simp (disch:=omega) only [go_sem,seval]
 by_cases e0:U0 x l=0
 ·have k:C2 x l=XX x l:=by rw [C2,if_pos e0]
  have b:MR x l=decide (Ym (XX x l)=24):=by rw [MR,e0];rfl
  rw [k,e0,b];generalize XX x l=Y at c2 h;generalize Ym Y=s at c2 h;simp (disch:=omega) only [go_sem,seval];refine J2 c2 ?_;rcases h with rfl | rfl
  ·simp (disch:=omega) only [go_sem,seval];exact we
  ·simp (disch:=omega) only [go_sem,seval];exact we
 ·have b:MR x l=false:=by rw [MR,Ut e0];rfl
  rw [b];refine cD ?_ ?_<;>intro h1<;>simp (disch:=omega) only [Sh.out h1,go_sem,seval]
  ·exact we
  ·exact absurd (XD.1 h1) e0
theorem RX {x:Inst} {l:List Itm} {k:Nat} (h:k<l.length):Jt x (l.length-k) l k=if Ym (XX x (l.eraseIdx k))=24 then Jt x ((l.eraseIdx k).length-k) (l.eraseIdx k) k else Jt x (l.length-(k+1)) l (k+1):=by
 have hl:(l.eraseIdx k).length=l.length-1:=by rw [List.length_eraseIdx,if_pos h]
 rw [hl,show l.length-k=(l.length-(k+1))+1 by omega,Jt,if_pos h,show l.length-1-k=l.length-(k+1) by omega]
theorem RW {x:Inst} {l:List Itm} :Jt x (l.length-l.length) l l.length=l:=by rw [Kq,Jt]
theorem kF {l m:List Itm} (h:l.Sublist m) (k:Nat):(l.eraseIdx k).Sublist m:=(List.eraseIdx_sublist l k).trans h
theorem RY (x:Inst) (hx:InstOk x) (hn:x.orders.length<=4):PT 27 [.p (ZW x)] [.p (.list (decide (Ym x=0)) ((Nc x).map Yb)),.p (.int .i64 (Nb x))]:=by
 have c1:=HP x hx hn;have c2:=Hu x (AW hx);have hrl:=QC (AW hx);have h:=BK hx hn;refine Zj [] Tryz.func27 rfl Zel ?_;simp (disch:=omega) only [Tryz.f27,go_sem,seval];refine J2 c1 ?_;rcases h with h | h
 ·have e1:Nc x= []:=by rw [Nc,h];rfl
  have e2:Nb x=9:=by rw [Nb,h];rfl
  rw [e1,e2,h];simp (disch:=omega) only [go_sem,seval];exact we
 ·have e1:Nc x=cH x:=by rw [Nc,if_pos h]
  have e2:Nb x=0:=by rw [Nb,if_pos h]
  rw [e1,e2,h];simp (disch:=omega) only [go_sem,seval];refine (c2).use ?_;simp (disch:=omega) only [go_sem,seval];refine Zn [1] (fun q:Nat×List Itm=> [(6,.p (.list false (q.2.map Yb))),(7,.p (.int .i64 q.1))]) (fun _=> [Zh x]) (fun q=>q.1<=q.2.length/\q.2.Sublist (Yw x 10)/\Jt x (q.2.length-q.1) q.2 q.1=cH x) (fun q=>q.2.length-q.1) (0,Yw x 10) ⟨Zb,List.Sublist.refl _,rfl⟩ (Weak.mk ?_) ?_
  ·simp (disch:=omega) only [Zh,go_sem,seval]
  ·rintro ⟨k,l⟩ ⟨hk,hsub,hm⟩;simp only at hk hsub hm;have hll:=hsub.length_le;simp (disch:=omega) only [Zh,go_sem,seval];refine cD ?_ ?_<;>intro h1<;>simp (disch:=omega) only [Sh.out h1,go_sem,seval]
   ·have hk2:k<l.length:=Za
    have hst:=RX (x:=x) hk2;rw [hm] at hst
    have hel:(l.eraseIdx k).length=l.length-1:=by rw [List.length_eraseIdx,if_pos hk2]
    have hes:=kF hsub k
    have hb:MR x (l.eraseIdx k)=decide (Ym (XX x (l.eraseIdx k))=24):=by rw [MR,BB hes];rfl
    refine (Mi l false k hk2 Za).use ?_;simp (disch:=omega) only [go_sem,seval];have c3:=jW x hx hn (l.eraseIdx k) false Za;rw [BB hes,hb] at c3;refine J2 c3 ?_;simp (disch:=omega) only [go_sem,seval];refine cD ?_ ?_<;>intro h2<;>simp (disch:=omega) only [Sh.out h2,go_sem,seval]
    ·rw [if_pos h2] at hst;exact ⟨(k,l.eraseIdx k),⟨by simp only;omega,hes,hst.symm⟩,by simp only;omega,Weak.mk (by simp (disch:=omega) only [Zh,go_sem,seval])⟩
    ·rw [if_neg h2] at hst;exact ⟨(k+1,l),⟨by simp only;omega,hsub,hst.symm⟩,by simp only;omega,Weak.mk (by simp (disch:=omega) only [Zh,go_sem,seval])⟩
   ·have hkl:k=l.length:=Za
    subst hkl;rw [RW] at hm;rw [<- hm];exact we
def ZdY : Typ:= { name:= [118],count:=1,src:=0,dst:=0,cap_c:=false,cap:= [5],cls:=9,drive:=9,opn:=0,rest:=0,skills:=0,fixed:=0,perMile:=0,perTick:=0,prof:=0 }
def ZdX : Ord:= { name:= [111],load_c:=false,load:= [1],pick:=⟨-1,0,0,0⟩,drp:=⟨0,0,9,0⟩,skills:=1,penalty:= -1,split:=1,last:= -1,now:= -1,off:=false }
def exaX : Inst:= { net:= { places_c:=false,places:= [[97]],arcs_c:=true,arcs:= [] },types_c:=false,types:= [ZdY],orders_c:=false,orders:= [ZdX],apart_c:=true,apart:= [],before_c:=true,before:= [] }
theorem FM : InstOk exaX:=by
 refine ⟨⟨⟨⟨by decide,fun i hi=> ?_⟩,by decide⟩,fun i hi=> ?_⟩,⟨rfl,fun i hi=> ?_⟩,CU.1 (by rfl),rfl⟩
 ·match i,hi with
  | 0,_=>exact ⟨rfl,fun k hk=>Za⟩
 ·exact absurd hi (by simp [exaX])
 ·have:i=0:=by simp [exaX] at hi;omega
  subst this;exact ⟨⟨⟨⟨⟨⟨⟨⟨rfl,fun j hj=>Za⟩,rfl⟩,rfl,rfl⟩,rfl⟩,rfl⟩,rfl,by decide⟩,rfl,rfl⟩,rfl,rfl,rfl,rfl⟩
def exaL : List Itm:= [⟨2,0⟩,⟨3,0⟩,⟨4,0⟩,⟨7,0⟩,⟨8,0⟩,⟨9,0⟩,⟨10,0⟩]
theorem FN : Yw exaX 10=exaL:=by decide+kernel
theorem Hj {l:List Itm} :(XX exaX l).orders.length=1/\(XX exaX l).types.length=1:=⟨Wh.1,Wh.2⟩
theorem Ox {l:List Itm} :nth (XX exaX l).orders 0=YE ZdX (0:Nat) (KR exaX l):=ZF (by decide)
theorem kI {l:List Itm} :nth (XX exaX l).types 0=Yx ZdY (0:Nat) (KR exaX l):=Yj (by decide)
theorem Sv {x:Inst} {r:Rte} (h:Yf x r=0): ∀v∈r.visits,YK (ZG x r) (nth x.orders v.order.toNat).skills=true:=fun v hv=>by
 cases hb:YK (ZG x r) (nth x.orders v.order.toNat).skills with
 | true=>rfl
 | false =>
  exfalso;have ha:(r.visits.any fun v=> !YK (ZG x r) (nth x.orders v.order.toNat).skills)=true:=Vj.2 ⟨v,hv,by rw [hb];rfl⟩;unfold Yf at h
  split at h
  ·simp at h
  ·split at h
   ·rename_i h1;exact h1 h
   ·first
    | (rw [if_pos ha] at h;simp at h)
    | simp at h
theorem J9 {l:List Itm} (h1:(⟨4,0⟩:Itm)∈l) (h2:(⟨10,0⟩:Itm)∈l):Ym (XX exaX l)=24:=by
 have hy:=QZ (l:=l) FM;obtain ⟨l1,l2⟩:=Hj (l:=l);rcases KC hy Za with h | ⟨_,⟨q,hq,_⟩,_⟩
 ·exact h.1
 ·exfalso;have eo:=Ox (l:=l);have et:=kI (l:=l);have n4:(⟨4,((0:Nat):Int)⟩:Itm) ∉ KR exaX l:=fun h=>(JM.1 h).2 h1;have n10:(⟨10,((0:Nat):Int)⟩:Itm) ∉ KR exaX l:=fun h=>(JM.1 h).2 h2
  have hs:(nth (XX exaX l).orders 0).skills=1:=by rw [eo];simp only [YE,if_neg n4];rfl
  have hp:(nth (XX exaX l).orders 0).penalty= -1:=by rw [eo];simp only [YE,if_neg n10];rfl
  have hf:(nth (XX exaX l).orders 0).off=false:=by rw [eo];rfl
  have ht:(nth (XX exaX l).types 0).skills=0:=by rw [et];rfl
  have hno:XO (XX exaX l)= []:=by
   rw [List.eq_nil_iff_forall_not_mem];intro c hc;obtain ⟨k,m,g1,g2,_⟩:=It hy hc;have he:=Ux g2;have hr:=WL he;have hru:=Vu he
   obtain ⟨v,hv⟩: ∃v,v∈m:=by
    cases m with
    | nil=>exact absurd rfl hr.ne
    | cons v m=>exact ⟨v,Zb⟩
   have hi:=hr.inr v hv;have hab:=Sv hru v hv
   have ek:k=0:=Za
   subst ek
   have ev0:v.order.toNat=0:=Za
   rw [ev0,hs] at hab;have hab:YK (nth (XX exaX l).types 0) 1=true:=hab;simp only [YK,ht,Zs,ZH,ZO] at hab;have:=hab.2 0 Za;simp at this
  unfold Fj at hq;rw [hno,l1] at hq;have n0:nth [(-1:Int)] 0= -1:=rfl;simp [Aw,l1,hf,hp,n0] at hq
theorem T6 {l:List Itm} (hs: ∀v∈l,v∈exaL) (h:(⟨4,0⟩:Itm) ∉ l):Ym (XX exaX l)=0:=by
 refine RN FM (by decide) (B:= [⟨2,0⟩,⟨3,0⟩,⟨7,0⟩,⟨8,0⟩,⟨9,0⟩,⟨10,0⟩]) (fun v hv=> ?_) ?_
 ·have:=hs v hv;simp only [exaL,Z4,W0,Wl] at this ⊢;rcases this with e | e | e | e | e | e | e
  ·exact .inl e
  ·exact .inr (.inl e)
  ·exact absurd (e ▸ hv) h
  ·exact .inr (.inr (.inl e))
  ·exact .inr (.inr (.inr (.inl e)))
  ·exact .inr (.inr (.inr (.inr (.inl e))))
  ·exact .inr (.inr (.inr (.inr (.inr e))))
 ·obtain ⟨B,hB⟩: ∃B:List Itm,B= [⟨2,0⟩,⟨3,0⟩,⟨7,0⟩,⟨8,0⟩,⟨9,0⟩,⟨10,0⟩]:=⟨_,rfl⟩;rw [<- hB];have hy:=QZ (l:=B) FM;obtain ⟨l1,l2⟩:=Hj (l:=B)
  have hpr:(YS (XX exaX B) ⟨0,0,true,[],false,[⟨0,true⟩]⟩).2=0:=by rw [hB];kernel_rfl
  have hp:(nth (XX exaX B).orders 0).penalty= -1/\(nth (XX exaX B).orders 0).off=false/\(nth (XX exaX B).types 0).count=1:=by rw [hB];exact ⟨Ze,Ze,Ze⟩
  obtain ⟨j,j1,j2,j3,_⟩:=TX hy hpr ⟨by decide,by rw [l2];decide⟩ rfl rfl;have j3:(nth (XO (XX exaX B)) j).set=1:=j3;have j2:(nth (XO (XX exaX B)) j).typ=0:=j2;rcases KC hy Za with ⟨_,_,g⟩ | g
  ·exfalso
   have hc:BZ (XX exaX B) (XO (XX exaX B)) [-1] j 0=true:=by
    unfold BZ;rw [j2,j3,show ((0:Int).toNat)=0 from rfl,hp.2.2]
    rfl
   have:V9 1 [-1] j= [(j:Int)]:=by simp [V9]
   unfold Fj at g;rw [l1] at g;simp only [Aw,l1,hp.2.1,Nat.reduceAdd,Kq] at g;rw [if_neg (by simp [nth])] at g;have g2:=(Uq.1 g).1;rw [List.flatMap_eq_nil_iff] at g2;have:=g2 j (ZO.2 j1);rw [List.replicate_one,if_pos hc] at this;simp at this
  ·exact g.1
theorem kH {l:List Itm} (hs: ∀v∈l,v∈exaL) (h:(⟨10,0⟩:Itm) ∉ l):Ym (XX exaX l)=0:=by
 obtain ⟨l1,l2⟩:=Hj (l:=l);refine fM (QZ FM) Za fun k hk ho=> ?_
 obtain rfl:k=0:=Za
 have n10:(⟨10,((0:Nat):Int)⟩:Itm)∈KR exaX l:=JM.2 ⟨by decide+kernel,h⟩;rw [Ox];simp only [YE,if_pos n10];exact Yr _
theorem Bl {x:Inst} {f k:Nat} {l l':List Itm} (hk:k<l.length) (he:l.eraseIdx k=l') (h:Ym (XX x l')=24):Jt x (f+1) l k=Jt x f l' k:=by
 rw [Jt,if_pos hk,he,if_pos h]
theorem cE {x:Inst} {f k:Nat} {l l':List Itm} (hk:k<l.length) (he:l.eraseIdx k=l') (h:Ym (XX x l')=0):Jt x (f+1) l k=Jt x f l (k+1):=by
 rw [Jt,if_pos hk,he,if_neg (by rw [h];decide)]
theorem Hi : Ym exaX=24:=by
 rw [<- bR FM (by decide),FN];exact J9 (by decide) (by decide)
theorem kG : cH exaX= [⟨4,0⟩,⟨10,0⟩]:=by
 rw [cH,FN]
 show Jt exaX 7 exaL 0=_
 rw [Bl (l':= [⟨3,0⟩,⟨4,0⟩,⟨7,0⟩,⟨8,0⟩,⟨9,0⟩,⟨10,0⟩]) (by decide) rfl (J9 (by decide) (by decide))];rw [Bl (l':= [⟨4,0⟩,⟨7,0⟩,⟨8,0⟩,⟨9,0⟩,⟨10,0⟩]) (by decide) rfl (J9 (by decide) (by decide))];rw [cE (l':= [⟨7,0⟩,⟨8,0⟩,⟨9,0⟩,⟨10,0⟩]) (by decide) rfl (T6 (by decide) (by decide))];rw [Bl (l':= [⟨4,0⟩,⟨8,0⟩,⟨9,0⟩,⟨10,0⟩]) (by decide) rfl (J9 (by decide) (by decide))];rw [Bl (l':= [⟨4,0⟩,⟨9,0⟩,⟨10,0⟩]) (by decide) rfl (J9 (by decide) (by decide))];rw [Bl (l':= [⟨4,0⟩,⟨10,0⟩]) (by decide) rfl (J9 (by decide) (by decide))]
 rw [cE (l':= [⟨4,0⟩]) (by decide) rfl (kH (by decide) (by decide))];rw [Jt]
theorem kJ (x:Inst) (hw:x.wf 1048576):ACalls Tryz.prog 8 [.p (ZW x)] [] fun y H'=> ∃b:Bool,(b=true↔x.orders.length<=3/\x.types.length<=2/\InstOk x)/\y= .p (.bool b)/\H'= []:=by
 have w3:=hw.2.1;have w4:=hw.2.2.2.1;refine ACalls.pureE (Yz Tryz.func8 rfl Zjm (Zf [] _ _ _ _ ?_));simp (disch:=omega) only [Tryz.f8,go_sem,seval];refine gT ?_ ?_<;>intro h<;>simp (disch:=omega) only [Sh.out h,go_sem,seval]
 ·refine gT ?_ ?_<;>intro h2<;>simp (disch:=omega) only [Sh.out h2,go_sem,seval]
  ·refine ((TN x hw).frozenE).useV fun m hm=> ?_;simp (disch:=omega) only [go_sem,seval];refine ⟨decide (m.length=0),?_,Zb⟩;have:=hm.emp;rw [Zp,List.length_eq_zero_iff,this]
   constructor
   ·intro h2;exact ⟨Za,Za,h2⟩
   ·intro h2;exact h2.2.2
  ·exact ⟨false,by simp;omega,rfl⟩
 ·exact ⟨false,by simp;omega,rfl⟩
theorem BW : PC 9 [] (.bool true):=by
 have hm:=RY exaX FM (by decide);rw [show Nc exaX= [⟨4,0⟩,⟨10,0⟩] by rw [Nc,if_pos Hi,kG],show Nb exaX=0 by rw [Nb,if_pos Hi],Hi] at hm;obtain ⟨R,hR⟩: ∃R:List Itm,R= [⟨4,0⟩,⟨10,0⟩]:=⟨_,rfl⟩;rw [<- hR] at hm
 have r1:R.length=2:=by rw [hR];rfl
 have r2:nth R 0=⟨4,0⟩:=by rw [hR];rfl
 have r3:nth R 1=⟨10,0⟩:=by rw [hR];rfl
 clear hR;refine QI [1,2,3] Tryz.func9 rfl Zjn ?_;simp (disch:=omega) only [Tryz.f9,go_sem,seval];refine Wj (Oa 3 ?_);simp (disch:=omega) only [go_sem,seval];refine ⟨_,_,Weak.fz (o:=1) (by rfl),?_⟩;simp (disch:=omega) only [Zt,Zm,Z7,ZX,ZP,ZA,go_sem,seval];refine Zf [2,3] _ _ _ _ ?_;simp (disch:=omega) only [go_sem,seval];refine Zr (Weak.fz (o:=0) (by rfl)) ?_;refine Zr (Weak.fz (o:=2) (by rfl)) ?_;refine Wj (Oa 1 ?_);simp (disch:=omega) only [Zt,Zm,Z7,ZX,ZP,ZA,go_sem,seval]
 refine ⟨_,_,Weak.fz (o:=4) (by rfl),?_⟩;simp (disch:=omega) only [Zt,Zm,Z7,ZX,ZP,ZA,go_sem,seval];refine Zf [3] _ _ _ _ ?_;simp (disch:=omega) only [go_sem,seval];refine Zr (Weak.fz (o:=5) (by rfl)) ?_;refine Zf [] _ _ _ _ ?_;simp (disch:=omega) only [Zt,Zm,Z7,ZX,go_sem,seval];refine J2 hm ?_;simp (disch:=omega) only [r1,r2,r3,go_sem,seval]
theorem Hx (x:Inst) (hw:x.wf 1048576) (bs:List Bool) (c:Bool) (hbs:bs.length<=1048576):PC 3 [.p (ZW x),.p (.list c (bs.map eB))] (.bool true):=by
 refine QI [8] Tryz.func3 rfl Zjl ?_;simp (disch:=omega) only [Tryz.f3,go_sem,seval];refine (kJ x hw).useV fun b hb=> ?_;simp (disch:=omega) only [go_sem,seval];refine cD ?_ ?_<;>intro h<;>simp (disch:=omega) only [Sh.out h,go_sem,seval]
 ·refine (BW).use ?_;simp (disch:=omega) only [go_sem,seval]
 ·obtain ⟨hn,_,hx⟩:=hb.1 (by simpa using h)
  have hn4:x.orders.length<=4:=Za
  have hs:=AW hx;have hrl:=QC hs;have c1:=eQ x hs;have c2:=Cb x hx (Yw x 10) false hrl;rw [C2,BB (List.Sublist.refl _),if_pos rfl,Le,Jk] at c2;have c3:=nA x hw false false false false x.types_c x.orders_c x.apart_c x.before_c;have c3:PC 12 [.p (ZW x),.p (ZW { x with types_c:=false,orders_c:=false,apart_c:=false,before_c:=false })] (.bool true):=c3;generalize ({ x with types_c:=false,orders_c:=false,apart_c:=false,before_c:=false } :Inst)=Z at c2 c3
  have hsub:=fun (l:List Itm) (h:l.Sublist (Yw x 10))=>BB h;generalize Yw x 10=R at c1 c2 hrl hsub;refine (c1).use ?_;simp (disch:=omega) only [go_sem,seval];refine J2 c2 ?_;simp (disch:=omega) only [go_sem,seval];refine (c3).use ?_;simp (disch:=omega) only [go_sem,seval];refine Zr (Weak.ofNil 8 2 (by simp (disch:=omega) only [go_sem,seval]) Zb (Weak.refl _ _ _)) ?_;refine Zf [13] _ _ _ _ ?_;simp (disch:=omega) only [go_sem,seval];refine XG [13] [1,2,5] (fun q:Nat×List Itm=> [(8,.sl 2 0 q.2.length q.2.length),(9,.p (.int .i64 q.1))]) (fun q=> [Zh x,Zh Z,.elems 2 (q.2.map Yb)]) (fun q=>q.1<=R.length/\q.2.Sublist (R.take q.1)) (fun q=>R.length-q.1) (0,[]) ⟨Zb,Zb⟩ (Weak.mk ?_) ?_
  ·simp (disch:=omega) only [Zh,go_sem,seval]
  ·rintro ⟨k,m⟩ ⟨hk,hm⟩;simp only at hk hm
   have hml:m.length<=k:=by have:=hm.length_le;rw [Xy] at this;omega
   simp (disch:=omega) only [Zh,go_sem,seval];refine cD ?_ ?_<;>intro h1<;>simp (disch:=omega) only [Sh.out h1,go_sem,seval]
   ·have hk2:k<R.length:=Za
    have hyes:(m++ [nth R k]).Sublist (R.take (k+1)):=by
     rw [Yu hk2,<- Zg hk2];exact hm.append (List.Sublist.refl _)
    have hno:m.Sublist (R.take (k+1)):=hm.trans (List.take_sublist_take_left Za);refine gF ?_ ?_<;>intro h2<;>simp (disch:=omega) only [Sh.out h2,go_sem,seval]
    ·exact ⟨(k+1,m++ [nth R k]),⟨by simp only;omega,hyes⟩,by simp only;omega,Weak.mk (by simp (disch:=omega) only [Zh,go_sem,seval])⟩
    ·refine cD ?_ ?_<;>intro h3<;>simp (disch:=omega) only [Sh.out h3,go_sem,seval]
     ·exact ⟨(k+1,m++ [nth R k]),⟨by simp only;omega,hyes⟩,by simp only;omega,Weak.mk (by simp (disch:=omega) only [Zh,go_sem,seval])⟩
     ·exact ⟨(k+1,m),⟨by simp only;omega,hno⟩,by simp only;omega,Weak.mk (by simp (disch:=omega) only [Zh,go_sem,seval])⟩
   ·have hkl:k=R.length:=Za
    subst hkl;rw [X5] at hm;have e0:=hsub m hm;have d1:=Cb x hx m false Za
    have v1:C2 x m=XX x m:=by rw [C2,if_pos e0]
    rw [v1,e0] at d1;have d2:=TN (XX x m) (NU hw);have d3:=HP x hx hn4;have d4:=HP (XX x m) (QZ hx) (by rw [Ei];exact hn4);have hy:InstOk (XX x m):=QZ hx;have hmono:Ym x=0->Ym (XX x m)=0:=fun h=>(L5 hx hn4 Bs h).1;generalize XX x m=Y at d1 d2 d4 hy hmono;refine Zr (Weak.fz (o:=2) (by rfl)) ?_;refine Zf [] _ _ _ _ ?_;simp (disch:=omega) only [Zt,Zm,Z7,ZX,Zh,go_sem,seval];refine J2 d1 ?_;simp (disch:=omega) only [go_sem,seval];refine (d2.frozenE).useV fun w hw2=> ?_
    simp (disch:=omega) only [go_sem,seval]
    have hw3:w.length=0:=by rw [hw2.emp.2 hy];rfl
    simp (disch:=omega) only [hw3,go_sem,seval];refine J2 d3 ?_;simp (disch:=omega) only [go_sem,seval];refine J2 d4 ?_;simp (disch:=omega) only [go_sem,seval]
    by_cases q1:Ym x=0
    ·have q2:=hmono q1;simp (disch:=omega) only [q1,q2,go_sem,seval];refine (BW).use ?_;simp (disch:=omega) only [go_sem,seval]
     try simp
    ·simp (disch:=omega) only [q1,go_sem,seval];refine (BW).use ?_;simp (disch:=omega) only [go_sem,seval]
     try simp
end Go.Proofs.YtjkkdmeebhjaiaaGreatDoor.K
