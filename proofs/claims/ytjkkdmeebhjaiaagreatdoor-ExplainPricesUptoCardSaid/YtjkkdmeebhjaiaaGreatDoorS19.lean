/- Declarations that the closing texts need, part 19: joined by tools/slim.py. -/
import Derived.Test.YtjkkdmeebhjaiaaGreatDoorS18
import Derived.Shelf.Slices.In.SortNone
import Derived.Shelf.Sort.Plain
set_option linter.unusedVariables false
set_option linter.unusedSimpArgs false
namespace Go.Proofs.YtjkkdmeebhjaiaaGreatDoor.K
open Go Go.AM Go.Proofs
set_option maxRecDepth 8000
theorem dY {x:Inst} (hx:InstOk x) {c:Col} (h:c∈X2 x): ∃(k:Nat) (m:List Vis),k<x.types.length/\F0 x k m=true/\c=YM x k (Xo m) m:=by
 obtain ⟨k,S,h1,h2,h3,h4,rfl⟩:=BN.1 h;have hf:=XC hx
 have hopn:0<=(nth x.types ((k:Nat):Int).toNat).opn:=by
  simp_all [W0]
 unfold VC at h4 ⊢
 split at h4
 ·rename_i hc;rw [if_pos hc];have hS:S / pw x.orders.length=0:=QA h3;have ha:Alw x S:=(Qw (by have:=hf.len;omega) hS hf.val).1 hc.1;rw [O0 hx Za hS ha hopn] at hc ⊢;rcases DR _ _ hc.2 with ⟨e,_⟩ | ⟨m,m1,m2,m3⟩
  ·cases e
  ·have m3:(BT x (k:Int) S (Wn,false)).1=_:=m3;simp only [Dd,Zv,Zr] at m2;have hr:RightV x m:=V7 (r:=JB (k:Int) m) (Jr m2.2.2);have e:=m2.1;rw [hr.ord hf] at e
   grind
 ·simp at h4
theorem rE {α β:Type} [Inhabited α] [Inhabited β] {f:α->β} {l:List α} {i:Nat} (h:i<l.length):nth (l.map f) i=f (nth l i):=by
 grind [Zj]
set_option maxHeartbeats 2000000
def Pu (f:Nat->Nat) (z:Int):Int:=if 0<=z then (f z.toNat:Nat) else z
theorem Ss {f:Nat->Nat} {z:Int} :0<=Pu f z↔0<=z:=by unfold Pu;split<;>omega
theorem Bp {f:Nat->Nat} {a:List Int} {i:Nat} (h:i<a.length):nth (a.map (Pu f)) i=Pu f (nth a i):=rE h
structure Eas (x y:Inst) (l m:List Col) (f:Nat->Nat):Prop where
 len:y.orders.length=x.orders.length
 off: ∀k,k<x.orders.length->(nth y.orders k).off=(nth x.orders k).off
 col: ∀j,j<l.length->f j<m.length/\(nth m (f j)).typ=(nth l j).typ/\(nth m (f j)).set=(nth l j).set/\(nth m (f j)).price<=(nth l j).price
 cnt: ∀j,j<l.length->(nth x.types (nth l j).typ.toNat).count<=(nth y.types (nth l j).typ.toNat).count
 skp: ∀k,k<x.orders.length->(nth x.orders k).off=false->0<=(nth x.orders k).penalty->0<=(nth y.orders k).penalty/\skR y k<=skR x k
section
variable {x y : Inst} {l m : List Col} {f : Nat -> Nat} (h : Eas x y l m f)
include h
theorem RT {a:List Int} (ha: ∀i,i<a.length->nth a i<l.length) {T:Int} : ∀n,n<=a.length->usdI m (a.map (Pu f)) T n<=usdI l a T n
 | 0,_=>ZF _
 | n+1,hn=>by
  have ih:=RT ha (T:=T) n Za;rw [usdI,usdI]
  have hp:K9 m (a.map (Pu f)) T n=true->K9 l a T n=true:=by
   unfold K9;rw [Bp (show n<a.length by omega)];simp only [Zv,Zr];rintro ⟨h1,h2,h3⟩;have h0:=Ss.1 h1;have hj:=h.col (nth a n).toNat (by have:=ha n Za;omega)
   have e:(Pu f (nth a n)).toNat=f (nth a n).toNat:=by unfold Pu;rw [if_pos h0];omega
   rw [e,hj.2.1] at h2;refine ⟨h0,h2,?_⟩;rw [B8] at h3 ⊢;intro t ht he;refine h3 t ht ?_;rw [Bp Za,Bp Za,he]
  split
  ·rename_i c;rw [if_pos (hp c)];omega
  ·split<;>omega
theorem qB {a:List Int} {j:Nat} (hj:j<l.length):(Vz (nth l j).set.toNat a j).map (Pu f)=Vz (nth m (f j)).set.toNat (a.map (Pu f)) (f j:Nat):=by
 refine Qc (by simp [Vz]) fun i h1 h2=> ?_
 have hi:i<a.length:=by simpa [Vz] using h1
 rw [<- Zj h1,<- Zj h2,Bp (by simpa [Vz] using hi),Xt hi,Xt (by simpa using hi),(h.col j hj).2.2.1,Bp hi]
 split
 ·unfold Pu;rw [if_pos Za];simp
 ·rfl
theorem qA {a:List Int} {j k:Nat} (ha: ∀i,i<a.length->nth a i<l.length) (hj:j<l.length) (hc:Bk x l a j k=true):Bk y m (a.map (Pu f)) (f j) k=true:=by
 obtain ⟨c1,c2,c3,_⟩:=h.col j hj;unfold Bk at hc ⊢;simp only [Zv,Zr,Ke] at hc ⊢;obtain ⟨h1,h2,h3⟩:=hc;rw [c2,c3,Zx];refine ⟨h1,?_,fun i hi hb=> ?_⟩
 ·have u:=RT h ha (T:=(nth l j).typ) a.length (ZF _);have:=h.cnt j hj;omega
 ·obtain ⟨g1,g2⟩:=h3 i hi hb;rw [Bp hi];refine ⟨?_,g2⟩;unfold Pu;rw [if_neg Za];exact g1
theorem Et : ∀(d:Nat) (a:List Int) (p p':Int),d<=x.orders.length->a.length=x.orders.length->(∀i,i<a.length->nth a i<l.length)->p'<=p-> ∀q∈Jo x l d a p,∃q'∈Jo y m d (a.map (Pu f)) p',q'.2<=q.2
 | 0,a,p,p',_,_,_,hp,q,hq=>by
  simp only [Jo,Z3,Wv,WT] at hq;subst hq;exact ⟨_,by simp only [Jo];exact List.mem_cons_self ..,hp⟩
 | d+1,a,p,p',hd,hl,ha,hp,q,hq=>by
  have hk:x.orders.length-(d+1)<x.orders.length:=Za
  rw [Jo] at hq;rw [Jo,h.len,h.off _ hk,Bp Za];simp only [Ss]
  by_cases c:(nth x.orders (x.orders.length-(d+1))).off=true\/0<=nth a (x.orders.length-(d+1))
  ·rw [if_pos c] at hq ⊢;exact Et d a p p' Za hl ha hp q hq
  ·rw [if_neg c] at hq ⊢;rcases Xe.1 hq with hq | hq
   ·obtain ⟨j,hj,hq⟩:=XK.1 hq;have hj:=ZP.1 hj
    split at hq
    ·rename_i hc;obtain ⟨c1,c2,c3,c4⟩:=h.col j hj
     obtain ⟨q',h1,h2⟩:=Et d (Vz (nth l j).set.toNat a j) (p+(nth l j).price) (p'+(nth m (f j)).price) Za (by rw [Uk];exact hl) (fun i hi=>by
      rw [Uk] at hi;rw [Xt hi]
      split
      ·omega
      ·exact ha i hi) Za q hq
     rw [qB h hj] at h1;refine ⟨q',List.mem_append_left _ (XK.2 ⟨f j,ZP.2 c1,?_⟩),h2⟩;rw [if_pos (qA h ha hj hc)];exact h1
    ·simp at hq
   ·split at hq
    ·rename_i hc;obtain ⟨s1,s2⟩:=h.skp _ hk (by simpa using fun e=>c (.inl e)) hc;obtain ⟨q',h1,h2⟩:=Et d a (p+skR x (x.orders.length-(d+1))) (p'+skR y (x.orders.length-(d+1))) Za hl ha Za q hq;refine ⟨q',List.mem_append_right _ ?_,h2⟩;rw [if_pos s1];exact h1
    ·simp at hq
end
theorem Il {l:List Col} : ∀(L:List (List Int×Int)) (b:Chc),(b.found=true->(L.foldl (YI l) b).found=true/\(L.foldl (YI l) b).price<=b.price)/\(∀q∈L,(L.foldl (YI l) b).found=true/\(L.foldl (YI l) b).price<=q.2)/\((L.foldl (YI l) b).found=true->L.foldl (YI l) b=b\/ ∃q∈L,(L.foldl (YI l) b).price=q.2)
 | [],b=>⟨fun h=>⟨h,Vq _⟩,fun q hq=>by simp at hq,fun _=> .inl rfl⟩
 | q::L,b=>by
  rw [XG];obtain ⟨i1,i2,i3⟩:=Il (l:=l) L (YI l b q)
  have hf:(YI l b q).found=true/\(YI l b q).price<=q.2/\(b.found=true->(YI l b q).price<=b.price)/\(YI l b q=b\/(YI l b q).price=q.2):=by
   unfold YI
   split
   ·rename_i c;refine ⟨rfl,Vq _,fun hb=> ?_,.inr rfl⟩
    show q.2<=b.price
    rcases c with c | c | c
    ·rw [hb] at c;cases c
    ·omega
    ·omega
   ·rename_i c
    have c1:b.found=true:=by
     cases hb:b.found with
     | true=>rfl
     | false=>exact absurd (.inl hb) c
    refine ⟨c1,?_,fun _=>Vq _,.inl rfl⟩;exact Int.not_lt.1 fun g=>c (.inr (.inl g))
  obtain ⟨f1,f2,f3,f4⟩:=hf;obtain ⟨g1,g2⟩:=i1 f1;refine ⟨fun hb=>⟨g1,Az g2 (f3 hb)⟩,fun q' hq=> ?_,fun hfo=> ?_⟩
  ·rcases Z3.1 hq with rfl | hq
   ·exact ⟨g1,Az g2 f2⟩
   ·exact i2 q' hq
  ·rcases i3 hfo with e | ⟨q',hq,e⟩
   ·rcases f4 with f4 | f4
    ·exact .inl (e.trans f4)
    ·exact .inr ⟨q,Zb,by rw [e];exact f4⟩
   ·exact .inr ⟨q',Ye _ hq,e⟩
noncomputable def My (x:Inst):List (List Int×Int):=Jo x (X2 x) x.orders.length (List.replicate x.orders.length (-1)) 0
theorem EX {x:Inst} (hx:InstOk x) (hn:x.orders.length<=4):(XU x=24/\Um x=0/\My x= [])\/(XU x=0/\(∃q∈My x,Um x=q.2)/\ ∀q∈My x,Um x<=q.2):=by
 obtain ⟨hl,_⟩:=Ep hn (tU hx);have hr:=H9 hx hn;obtain ⟨u1,u2,u3⟩:=Il (l:=X2 x) (My x) zCh;have ea:D9 x (X2 x)=(My x).foldl (YI (X2 x)) zCh:=rfl;rw [<- ea] at u1 u2 u3;obtain ⟨b,hb,h1,h2⟩:=LS x;rcases hb with ⟨k1,_⟩ | ⟨_,⟨c,kc,k2⟩,_⟩ | ⟨_,_,k3⟩
 ·omega
 ·rw [hr c kc] at k2;cases k2
 ·rcases k3 with ⟨k4,rfl,k5⟩ | ⟨k4,rfl,k5⟩
  ·refine .inl ⟨k5,(h1 (by rw [k5];decide)).2,?_⟩
   cases hc:My x with
   | nil=>rfl
   | cons q L =>
    have:=(u2 q (by rw [hc];simp)).1;rw [k4] at this;cases this
  ·have e:=(h2 k5).1;have e:Um x=(D9 x (X2 x)).price:=e;refine .inr ⟨k5,?_,fun q hq=>by rw [e];exact (u2 q hq).2⟩;rcases u3 k4 with g | ⟨q,hq,g⟩
   ·rw [g] at k4;cases k4
   ·exact ⟨q,hq,by rw [e];exact g⟩
theorem tD {x y:Inst} {f:Nat->Nat} (hx:InstOk x) (hy:InstOk y) (hn:x.orders.length<=4) (h:Eas x y (X2 x) (X2 y) f) (h0:XU x=0):XU y=0/\Um y<=Um x:=by
 rcases EX hx hn with ⟨g,_⟩ | ⟨_,⟨q,hq,e⟩,_⟩
 ·omega
 ·obtain ⟨q',h1,h2⟩:=Et h x.orders.length (List.replicate x.orders.length (-1)) 0 0 (ZF _) Zb (fun i hi=>by
   rw [EO (by simpa using hi)];omega) (Vq _) q hq
  have em:(List.replicate x.orders.length (-1:Int)).map (Pu f)=List.replicate y.orders.length (-1):=by
   rw [Ap,h.len];rfl
  rw [em] at h1
  have h1:q'∈My y:=by unfold My;rw [h.len] at h1 ⊢;exact h1
  rcases EX hy (by rw [h.len];exact hn) with ⟨_,_,g⟩ | ⟨g,_,g2⟩
  ·rw [g] at h1;simp at h1
  ·refine ⟨g,?_⟩;have:=g2 q' h1;omega
theorem W3 {x:Inst} (hx:InstOk x) (hn:x.orders.length<=4):XU x=0\/XU x=24:=by
 rcases EX hx hn with h | h
 ·exact .inr h.1
 ·exact .inl h.1
theorem pV {x y:Inst} (hx:InstOk x) (hy:InstOk y) (ht:y.types.length=x.types.length) (hp: ∀(k:Nat) (m:List Vis),k<x.types.length->(WI x (JB k m)).2=0->(WI y (JB k m)).2=0/\(WI y (JB k m)).1<=(WI x (JB k m)).1) :
  ∃f:Nat->Nat,∀j,j<(X2 x).length->(∃k:Nat,k<x.types.length/\(nth (X2 x) j).typ=(k:Int))/\f j<(X2 y).length/\(nth (X2 y) (f j)).typ=(nth (X2 x) j).typ/\(nth (X2 y) (f j)).set=(nth (X2 x) j).set/\(nth (X2 y) (f j)).price<=(nth (X2 x) j).price:=by
 have H: ∀j,j<(X2 x).length-> ∃i,(∃k:Nat,k<x.types.length/\(nth (X2 x) j).typ=(k:Int))/\i<(X2 y).length/\(nth (X2 y) i).typ=(nth (X2 x) j).typ/\(nth (X2 y) i).set=(nth (X2 x) j).set/\(nth (X2 y) i).price<=(nth (X2 x) j).price:=fun j hj=>by
  obtain ⟨k,m,h1,h2,h3⟩:=dY hx (Zt hj);have h4:(WI x (JB (k:Int) m)).2=0:=Cu h2;obtain ⟨h5,h6⟩:=hp k m h1 h4;obtain ⟨i,i1,i2,i3,i4⟩:=yM hy h5 ⟨by show (0:Int)<=(k:Int);omega,by show (k:Int)<_;omega⟩ rfl rfl;rw [h3];exact ⟨i,⟨k,h1,rfl⟩,i1,i2,i3,Az i4 h6⟩
 classical
 exact ⟨fun j=>if g:j<(X2 x).length then Classical.choose (H j g) else 0,fun j g=>by
  simp only [dif_pos g];exact Classical.choose_spec (H j g)⟩
theorem Ni {x:Inst} {l:List Col} (h: ∀k,k<x.orders.length->(nth x.orders k).off=false->0<=(nth x.orders k).penalty): ∀(d:Nat) (a:List Int) (p:Int),d<=x.orders.length->Jo x l d a p≠ []
 | 0,a,p,_=>by simp [Jo]
 | d+1,a,p,hd=>by
  rw [Jo]
  split
  ·exact Ni h d a p Za
  ·rename_i c;have:=h (x.orders.length-(d+1)) Za (by simpa using fun e=>c (.inl e));rw [if_pos this];intro e;exact Ni h d a _ Za (VQ.1 e).2
theorem EL {x:Inst} {l:List Col} (hl: ∀j,j<l.length->0<=(nth l j).price/\(nth l j).price<=18014398509481984) (hs: ∀k,k<x.orders.length->(nth x.orders k).off=false->0<=(nth x.orders k).penalty->0<=skR x k/\skR x k<=18014398509481984) :
  ∀(d:Nat) (a:List Int) (p:Int),d<=x.orders.length-> ∀q∈Jo x l d a p,p<=q.2/\q.2<=p+(d:Nat)*18014398509481984
 | 0,a,p,_,q,hq=>by
  simp only [Jo,Z3,Wv,WT] at hq;subst hq;simp
 | d+1,a,p,hd,q,hq=>by
  have hk:x.orders.length-(d+1)<x.orders.length:=Za
  rw [Jo] at hq
  split at hq
  ·have:=EL hl hs d a p Za q hq;omega
  ·rename_i c;rcases Xe.1 hq with hq | hq
   ·obtain ⟨j,hj,hq⟩:=XK.1 hq
    split at hq
    ·have h1:=hl j (ZP.1 hj);have:=EL hl hs d _ _ Za q hq;omega
    ·simp at hq
   ·split at hq
    ·rename_i hc;have h1:=hs _ hk (by simpa using fun e=>c (.inl e)) hc;have:=EL hl hs d _ _ Za q hq;omega
    ·simp at hq
theorem EY {x:Inst} (hx:InstOk x) (hn:x.orders.length<=4):0<=Um x/\Um x<=72057594037927936:=by
 rcases EX hx hn with ⟨_,g,_⟩ | ⟨_,⟨q,hq,e⟩,_⟩
 ·omega
 ·have hr:=H9 hx hn
  have:=EL (x:=x) (l:=X2 x) (fun j hj=>by
   have:=hr _ (Zt hj);simp only [rightB,Zv,Zr] at this
   exact ⟨this.2.2.2.2.1,this.2.2.2.2.2⟩) (N5 hx).1 x.orders.length _ 0 (ZF _) q hq
  omega
theorem Ow {x:Inst} {l:List Itm} :(WE x l).orders.length=x.orders.length/\(WE x l).types.length=x.types.length:=⟨U3 _ _,VX _ _⟩
theorem tB {x y:Inst} {k:Nat} (hl:y.orders.length=x.orders.length) (ho:(nth y.orders k).off=(nth x.orders k).off) (hw:(nth y.orders k).now=(nth x.orders k).now) (hp:(nth y.orders k).penalty=(nth x.orders k).penalty):skR y k=skR x k:=by
 unfold skR unsF;rw [hl,XS,ho,hw,hp]
structure PenE (x y:Inst):Prop where
 net:y.net=x.net
 typ:y.types=x.types
 ap:y.apart=x.apart
 be:y.before=x.before
 len:y.orders.length=x.orders.length
 ord: ∀j,∃q,nth y.orders j= { nth x.orders j with penalty:=q }
section
variable {x y : Inst} (h : PenE x y)
include h
theorem El (j:Nat):(nth y.orders j).pick=(nth x.orders j).pick/\(nth y.orders j).drp=(nth x.orders j).drp/\(nth y.orders j).off=(nth x.orders j).off/\(nth y.orders j).load=(nth x.orders j).load/\(nth y.orders j).skills=(nth x.orders j).skills/\(nth y.orders j).last=(nth x.orders j).last/\(nth y.orders j).now=(nth x.orders j).now/\(nth y.orders j).name=(nth x.orders j).name/\(nth y.orders j).split=(nth x.orders j).split:=by
 obtain ⟨q,e⟩:=h.ord j;rw [e];exact ⟨rfl,rfl,rfl,rfl,rfl,rfl,rfl,rfl,rfl⟩
theorem sE (i:Nat):ZU y.orders i=ZU x.orders i:=by
 unfold ZU;obtain ⟨h1,h2,_⟩:=El h i;rw [h1,h2]
theorem ZcM (l:List Vis):Xf y l=Xf x l:=by
 have e1:Vw y=Vw x:=by funext v;unfold Vw;rw [h.len]
 have e2:(fun v:Vis=>(nth y.orders v.order.toNat).off)=fun v=>(nth x.orders v.order.toNat).off:=by funext v;exact (El h _).2.2.1
 have e3:pairB y.orders l=pairB x.orders l:=by funext v;unfold pairB;rw [sE h]
 unfold Xf;rw [e1,e2,e3,h.ap,h.be]
theorem ZcK (l:List Vis) (n:Nat):Y3 y l n=Y3 x l n:=by
 unfold Y3;rw [h.typ];refine Wu fun j _=> ?_;unfold DO;rw [h.len]
 congr 1
 refine Wu fun i _=> ?_;unfold GK;obtain ⟨h1,h2,_,h4,_⟩:=El h i;rw [h1,h4]
theorem sD (l:List Vis):Z6 y l=Z6 x l:=by
 unfold Z6;refine Wu fun v _=> ?_;unfold XP;obtain ⟨h1,h2,_⟩:=El h v.order.toNat;rw [h1,h2]
theorem lD : nxtF y=nxtF x:=by
 funext t sp k L b
 unfold nxtF Wh;rw [h.net]
theorem sB : XL y=XL x:=by
 funext t sp k L b
 unfold XL;rw [lD h]
theorem lE (t:Typ) (sp:List Stp): ∀(bs:List Bool) (k:Nat) (L:Lab),Xs y t sp k L bs=Xs x t sp k L bs
 | [],_,_=>by rw [Xs,Xs]
 | b::bs,k,L=>by
  rw [Xs,Xs,lD h]
  split
  ·exact lE t sp bs _ _
  ·rfl
theorem sA (t:Typ) (sp:List Stp) (st:Int) (r:List Bool):VG y t sp st r=VG x t sp st r:=by
 unfold VG;rw [sB h]
 split
 ·rfl
 ·rw [lE h]
theorem sC (r:Rte):X7 y r=X7 x r:=by
 have e1:ZT y r=ZT x r:=by unfold ZT;rw [h.typ]
 have e2:(fun v:Vis=> !Wo (ZT x r) (nth y.orders v.order.toNat).skills)=fun v=> !Wo (ZT x r) (nth x.orders v.order.toNat).skills:=by funext v;rw [(El h _).2.2.2.2.1]
 have e3:Ua y (ZT x r).cap r.visits=Ua x (ZT x r).cap r.visits:=by
  unfold Ua
  congr 1
  funext n
  rw [ZcK h]
 unfold X7;rw [e1,e2,e3,ZcM h,h.typ]
theorem NI (r:Rte):Xq y r=Xq x r:=by
 unfold Xq;rw [sA h,sD h,show ZT y r=ZT x r by unfold ZT;rw [h.typ]]
theorem SB (r:Rte):Xv y r=Xv x r:=by
 unfold Xv;rw [sC h,NI h]
theorem lB (l:List Vis) (t:Int): ∀n,chgF y l t n=chgF x l t n
 | 0=>by rw [chgF,chgF]
 | n+1=>by
  have h1:=El h (nth l n).order.toNat;rw [chgF,chgF,lB l t n,h1.2.2.2.2.2.1,h1.2.2.2.2.2.2.1]
theorem lC (r:Rte):Wf y r=Wf x r:=by
 unfold Wf G9;rw [SB h,NI h,lB h,show ZT y r=ZT x r by unfold ZT;rw [h.typ]]
theorem ZcL (r:Rte):WI y r=WI x r:=by
 unfold WI;rw [SB h,lC h]
theorem ZcN (hx:InstOk x) (hy:InstOk y) (hn:x.orders.length<=4) (hp: ∀j,j<x.orders.length->(nth x.orders j).off=false->(nth y.orders j).penalty=(nth x.orders j).penalty\/(nth y.orders j).penalty= -1) (he:XU y=0):XU x=0/\Um x<=Um y:=by
 obtain ⟨f,hf⟩:=pV hy hx (by rw [h.typ]) fun k m _ hk=>by rw [ZcL h] at hk ⊢;exact ⟨hk,Vq _⟩
 refine tD hy hx (by rw [h.len];exact hn) (f:=f) ⟨h.len.symm,fun k _=>(El h k).2.2.1.symm,fun j hj=>(hf j hj).2,fun j hj=>by rw [h.typ];exact Vq _,fun k hk ho hq=> ?_⟩ he;rw [h.len] at hk;rw [(El h k).2.2.1] at ho;have h1:=hp k hk ho
 have h2:(nth x.orders k).penalty=(nth y.orders k).penalty:=Za
 refine ⟨Za,?_⟩;rw [tB h.len.symm (El h k).2.2.1.symm (El h k).2.2.2.2.2.2.1.symm h2];exact Vq _
end
def YG (x:Inst) (i:Nat):Inst:= { x with orders_c:=false,orders:=x.orders.set i { nth x.orders i with penalty:= -1 } }
theorem Lq {x:Inst} {i j:Nat} (hi:i<x.orders.length):nth (YG x i).orders j=if i=j then { nth x.orders i with penalty:= -1 } else nth x.orders j:=Lt hi
theorem Pv {x:Inst} {i:Nat} (hi:i<x.orders.length):PenE x (YG x i):=⟨rfl,rfl,rfl,rfl,Vs ..,fun j=>by
 rw [Lq hi]
 split
 ·rename_i e;subst e;exact ⟨_,rfl⟩
 ·exact ⟨_,rfl⟩⟩
theorem Bq {x:Inst} {i:Nat} (hx:InstOk x) (hi:i<x.orders.length):InstOk (YG x i):=by
 have hl:(YG x i).orders.length=x.orders.length:=Vs ..;have ho:=hx.orders;refine ⟨hx.net,hx.types,⟨by rw [hl];exact ho.1,fun j hj=> ?_⟩,?_⟩
 ·rw [hl] at hj;have hh:=ho.2 j hj;obtain ⟨h1,h2,h3,h4,h5,h6,h7,h8,h9⟩:=El (Pv hi) j
  show OrdOk x.net.places.length (dimsOf x.types) x.types.length (YG x i).orders j
  refine ⟨?_,?_,?_,?_,?_,?_,?_,?_,?_,?_⟩
  ·rw [h8];exact hh.name
  ·intro k hk;rw [h8,(El (Pv hi) k).2.2.2.2.2.2.2.1];exact hh.twin k hk
  ·rw [h4];exact hh.load
  ·rw [h1];exact hh.pick
  ·rw [h2];exact hh.drp
  ·rw [h1,h2];exact hh.one
  ·rw [h1];exact hh.pstp
  ·rw [h2];exact hh.dstp
  ·rw [h5];exact hh.skills
  ·have ha:=hh.arg
   have hp: -1<=(nth (YG x i).orders j).penalty/\(nth (YG x i).orders j).penalty<=1000000:=by
    simp only [argOk,Zv,Kf] at ha;rw [Lq hi]
    split
    ·simp
    ·exact ha.1.1
   simp only [argOk,Fm,Zv,Kf,h1,h2,h6,h7,h9] at ha ⊢;exact ⟨⟨hp,ha.1.2⟩,ha.2⟩
 ·have e:chk ((YG x i).orders.length:Int) x.apart x.before= []:=by rw [hl];exact hx.rules
  exact e
theorem rD {x:Inst} {i:Nat} (hx:InstOk x) (hn:x.orders.length<=4) (hi:i<x.orders.length) (he:XU (YG x i)=0):XU x=0/\Um x<=Um (YG x i):=by
 refine ZcN (Pv hi) hx (Bq hx hi) hn (fun j _ _=> ?_) he;rw [Lq hi]
 split
 ·exact .inr rfl
 ·exact .inl rfl
def F4 (x:Inst) (l:List Itm):List Itm:=(YS x 10).filter fun v=>decide (v ∉ l)
def UR (x:Inst) (l:List Itm):Inst:=WE x (F4 x l)
def Kw (x:Inst) (l:List Itm):Inst:=if WV x l=0 then UR x l else zeroI
theorem jQ {x:Inst} {l:List Itm} {v:Itm} :v∈F4 x l↔Yj x v=true/\v ∉ l:=by
 rw [F4,J8,Qf,Zr]
theorem NC {x:Inst} {l:List Itm} : ∀v∈F4 x l,Yj x v=true:=fun _ h=>(jQ.1 h).1
theorem Gd (x:Inst):(YS x 10).Nodup:=(KZ x 10).imp fun {a b} h e=>by
 subst e;rw [UN] at h;omega
theorem F5 (x:Inst) (l:List Itm):WV x (F4 x l)=0:=MJ.2 ⟨NC,(Gd x).filter _⟩
theorem CT {x:Inst} {l:List Itm} (h:l.Sublist (YS x 10)):WV x l=0:=MJ.2 ⟨fun v hv=>Qf.1 (h.subset hv),(Gd x).sublist h⟩
theorem Lh {x:Inst} {l:List Itm} (hx:InstOk x):InstOk (UR x l):=Rj hx NC
theorem FL {x:Inst} {l:List Itm} :(UR x l).orders.length=x.orders.length:=Ow.1
theorem FN {x:Inst} (hx:InstOk x) (hn:x.orders.length<=4) (l:List Itm):XU (UR x l)=0\/XU (UR x l)=24:=W3 (Lh hx) (by rw [FL];exact hn)
noncomputable def CC (x:Inst):Nat->List Itm->Nat->List Itm
 | 0,l,_=>l
 | f+1,l,k=>if k<l.length then (if XU (UR x (l.eraseIdx k))=24 then CC x f (l.eraseIdx k) k else CC x f l (k+1)) else l
noncomputable def jV (x:Inst):List Itm:=CC x (YS x 10).length (YS x 10) 0
noncomputable def Kb (x:Inst):List Itm:=if XU x=24 then jV x else []
noncomputable def Ka (x:Inst):Int:=if XU x=24 then 0 else 9
set_option maxRecDepth 60000
set_option maxHeartbeats 8000000
theorem BX (l:List Itm) (c:Bool) (v:Itm) (hl:l.length<=1048576):PC 30 [.p (.list c (l.map Xg)),.p (Xg v)] (.bool (decide (v∈l))):=by
 refine Zc Tryz.func30 rfl Zie ?_;simp (disch:=omega) only [Tryz.f30,go_sem,seval];refine Zl [3,7,8] (fun k:Nat=> [(9,.p (.int .i64 k))]) (fun _=> [.cells [.p (.int .i64 v.kind),.p (.int .i64 v.a)]]) (fun k=>k<=l.length/\ ∀j,j<k-> ¬nth l j=v) (fun k=>l.length-k) 0 Zb (Weak.mk ?_) ?_
 ·simp (disch:=omega) only [go_sem,seval]
 ·rintro k ⟨hk,hno⟩;simp (disch:=omega) only [go_sem,seval];refine cD ?_ ?_<;>intro h<;>simp (disch:=omega) only [Sh.out h,go_sem,seval]
  ·have hk2:k<l.length:=Za
   refine cD ?_ ?_<;>intro h2<;>simp (disch:=omega) only [Sh.out h2,go_sem,seval]
   ·have:nth l k=v:=by rw [XE];first | omega | (simp at h2;omega)
    have hm:v∈l:=this ▸ Zt hk2;simp [hm]
   ·have: ¬nth l k=v:=by rw [XE];first | omega | (simp at h2;omega)
    exact ⟨k+1,⟨Za,Zp.2 ⟨hno,this⟩⟩,Za,wk⟩
  ·have hkl:k=l.length:=Za
   subst hkl
   have hm:v ∉ l:=fun hm=>by
    obtain ⟨j,hj,e⟩:=ZO.1 hm;exact hno j hj (by rw [Zj hj];exact e)
   simp [hm]
theorem iR (l:List Itm) (c:Bool) (v:Itm) (hl:l.length<=1048576):PC 44 [.p (.list c (l.map Xg)),.p (Xg v)] (.bool (decide (v∈l))):=by
 refine Zc Tryz.func44 rfl Zio ?_;simp (disch:=omega) only [Tryz.f44,go_sem,seval];refine Zl [0,3] (fun k:Nat=> [(5,.p (.int .i64 k))]) (fun _=> [.cells [.p (.int .i64 v.kind),.p (.int .i64 v.a)]]) (fun k=>k<=l.length/\ ∀j,j<k-> ¬nth l j=v) (fun k=>l.length-k) 0 Zb (Weak.mk ?_) ?_
 ·simp (disch:=omega) only [go_sem,seval]
 ·rintro k ⟨hk,hno⟩;simp (disch:=omega) only [go_sem,seval];refine cD ?_ ?_<;>intro h<;>simp (disch:=omega) only [Sh.out h,go_sem,seval]
  ·have hk2:k<l.length:=Za
   refine Xd ?_;simp (disch:=omega) only [go_sem,seval];refine cD ?_ ?_<;>intro h2<;>simp (disch:=omega) only [Sh.out h2,go_sem,seval]
   ·have:nth l k=v:=by rw [XE];first | omega | (simp at h2;omega)
    have hm:v∈l:=this ▸ Zt hk2;simp [hm]
   ·have: ¬nth l k=v:=by rw [XE];first | omega | (simp at h2;omega)
    exact ⟨k+1,⟨Za,Zp.2 ⟨hno,this⟩⟩,Za,wk⟩
  ·have hkl:k=l.length:=Za
   subst hkl
   have hm:v ∉ l:=fun hm=>by
    obtain ⟨j,hj,e⟩:=ZO.1 hm;exact hno j hj (by rw [Zj hj];exact e)
   simp [hm]
theorem Ov (l:List Itm) (c:Bool) (i:Nat) (hi:i<l.length) (hl:l.length<=1048576):PC 47 [.p (.list c (l.map Xg)),.p (.int .i64 i)] (.list false ((l.eraseIdx i).map Xg)):=by
 refine ACalls.frozen (S:=2) (n:=(l.eraseIdx i).length) Zb ?_
 suffices hh:ACalls Tryz.prog 47 [.p (.list c (l.map Xg)),.p (.int .i64 i)] [] fun y H'=> ∃m:List Itm,m=l.eraseIdx i/\y= .sl 0 0 m.length m.length/\H'= [.elems 2 (m.map Xg)] by
  refine hh.mono ?_;rintro x H' ⟨m,rfl,h1,h2⟩;exact ⟨h1,h2⟩
 have t1:(l.take i).length<=1048576:=by simp;omega
 have t2:(l.drop (i+1)).length<=1048576:=by simp;omega
 refine ZG [1] Tryz.func47 rfl Zis ?_;simp (disch:=omega) only [Tryz.f47,go_sem,seval];refine YU (Es 2 rfl rfl ?_);simp (disch:=omega) only [go_sem,seval];refine ⟨_,_,aP 34 41 _ _ l.length 16 2 (.agg [.int .i64 0,.int .i64 0]) rfl Zg Zg Zg Zg Za (by rfl) (by rfl) Za Za (by simp (disch:=omega) only [go_sem,seval]) (by simp (disch:=omega) only [go_sem,seval]),?_⟩;simp (disch:=omega) only [go_sem,seval];refine Zh [] _ _ _ _ ?_;simp (disch:=omega) only [XX,go_sem,seval]
 refine ⟨l.eraseIdx i,rfl,0,?_⟩;rw [List.eraseIdx_eq_take_drop_succ];simp (disch:=omega) only [Xn,Zz,go_sem,seval]
theorem gI {l:List Itm} {i k:Nat} (h:k<l.length):(l.take (k+1)).eraseIdx i=(l.take k).eraseIdx i++if k=i then [] else [nth l k]:=by
 have hl:(l.take k).length=k:=by rw [Z7];omega
 rw [XZ h,<- Zj h];rcases Nat.lt_trichotomy k i with h1 | h1 | h1
 ·rw [if_neg Za,List.eraseIdx_of_length_le (by simp;omega),List.eraseIdx_of_length_le Za]
 ·subst h1;rw [if_pos rfl,Yw,List.eraseIdx_append_of_length_le Za,List.eraseIdx_of_length_le (by omega:(l.take k).length<=k),hl];simp
 ·rw [if_neg Za,List.eraseIdx_append_of_lt_length Za]
theorem jK (l:List Itm) (c:Bool) (i:Nat) (hi:i<l.length) (hl:l.length<=1048576):PC 49 [.p (.list c (l.map Xg)),.p (.int .i64 i)] (.list false ((l.eraseIdx i).map Xg)):=by
 refine ACalls.frozen (S:=2) (n:=(l.eraseIdx i).length) Zb ?_
 suffices hh:ACalls Tryz.prog 49 [.p (.list c (l.map Xg)),.p (.int .i64 i)] [] fun y H'=> ∃m:List Itm,m=l.eraseIdx i/\y= .sl 0 0 m.length m.length/\H'= [.elems 2 (m.map Xg)] by
  refine hh.mono ?_;rintro x H' ⟨m,rfl,h1,h2⟩;exact ⟨h1,h2⟩
 refine ZG [2] Tryz.func49 rfl Ziu ?_;simp (disch:=omega) only [Tryz.f49,go_sem,seval];refine Zo (Weak.ofNil 5 2 (by simp (disch:=omega) only [go_sem,seval]) Zb (Weak.refl _ _ _)) ?_;refine Zh [] _ _ _ _ ?_;simp (disch:=omega) only [go_sem,seval];refine Zl [0,1] (fun q:Nat×List Itm=> [(5,.sl 0 0 q.2.length q.2.length),(6,.p (.int .i64 q.1))]) (fun q=> [.elems 2 (q.2.map Xg)]) (fun q=>q.1<=l.length/\q.2=(l.take q.1).eraseIdx i) (fun q=>l.length-q.1) (0,[]) ⟨Zb,Zb⟩ (Weak.mk ?_) ?_
 ·simp (disch:=omega) only [go_sem,seval]
 ·rintro ⟨k,m⟩ ⟨hk,hm⟩;simp only at hk hm
  have hml:m.length<=k:=by
   have h1:=List.length_eraseIdx_le (l.take k) i;rw [<- hm,Z7] at h1;omega
  have hs:k<l.length->_:=fun h=>gI (l:=l) (i:=i) (k:=k) h;simp (disch:=omega) only [go_sem,seval];refine cD ?_ ?_<;>intro h<;>simp (disch:=omega) only [Sh.out h,go_sem,seval]
  ·have hk2:k<l.length:=Za
   have hs:=hs hk2;refine cD ?_ ?_<;>intro h2<;>simp (disch:=omega) only [Sh.out h2,go_sem,seval]
   ·have h3: ¬k=i:=Za
    exact ⟨(k+1,m++ [nth l k]),⟨by simp only;omega,by simp only [hs,if_neg h3,hm]⟩,by simp only;omega,wk⟩
   ·have h3:k=i:=Za
    exact ⟨(k+1,m),⟨by simp only;omega,by simp only [hs,if_pos h3,hm,Yw]⟩,by simp only;omega,wk⟩
  ·have hkl:k=l.length:=Za
   subst hkl;rw [XX] at hm;exact ⟨m,hm,0,by simp (disch:=omega) only [go_sem,seval]⟩
theorem MN {α:Type} [Inhabited α] {p:α->Bool} {l:List α} {k:Nat} (h:k<l.length):(l.take (k+1)).filter p=(l.take k).filter p++if p (nth l k)=true then [nth l k] else []:=by
 rw [XZ h,List.filter_append,<- Zj h]
 congr 1
 rw [EH]
 split<;>simp
theorem ND (x:Inst) (l:List Itm):(F4 x l).length<=(YS x 10).length:=ED _ _
theorem NE (x:Inst) (l:List Itm):A1 x (F4 x l)=UR x l:=by rw [A1,if_pos (F5 x l)];rfl
theorem T7 (x:Inst) (hx:InstOk x) (l:List Itm) (c:Bool) (hl:l.length<=1048576):PT 11 [.p (Zq x),.p (.list c (l.map Xg))] [.p (Zq (Kw x l)),.p (.int .i64 (WV x l))]:=by
 have hs:=UQ hx;have hcap:=M8 hx;have hrl:=Ui hs;have zI:Zq zeroI= .agg [.list true [],.list true [],.list true [],.list true [],.list true [],.list true []]:=rfl;refine Ze [10] Tryz.func11 rfl ZhZ ?_;simp (disch:=omega) only [Tryz.f11,go_sem,seval];refine ZY [10] [1,2,4,11,12] (fun k:Nat=> [(13,.p (.int .i64 k))]) (fun _=> [Zf x,Zf zeroI]) (fun k=>k<=l.length/\ ∀j,j<k->Yf x l j=0) (fun k=>l.length-k) 0 Zb (Weak.mk ?_) ?_
 ·simp (disch:=omega) only [Zf,zeroI,Zk,go_sem,seval]
 ·rintro k ⟨hk,hno⟩;simp (disch:=omega) only [Zf,zeroI,Zk,go_sem,seval];refine cD ?_ ?_<;>intro h<;>simp (disch:=omega) only [Sh.out h,go_sem,seval]
  ·have hk2:k<l.length:=Za
   refine (R3 x hs (nth l k)).use ?_;simp (disch:=omega) only [go_sem,seval];refine cD ?_ ?_<;>intro h2<;>simp (disch:=omega) only [Sh.out h2,zI,go_sem,seval]
   ·have h3:Yj x (nth l k)=false:=by simpa using h2
    have e0:Yf x l k=7:=by rw [Yf,h3];rfl
    have e:WV x l=7:=by rw [UP hk2 hno (by rw [e0];decide),e0]
    have r:Kw x l=zeroI:=by rw [Kw,e];rfl
    simp only [e,r,zeroI,Zk];exact we
   ·have h3:Yj x (nth l k)=true:=by simpa using h2
    refine Xd ?_;simp (disch:=omega) only [go_sem,seval];refine Zn (BX (l.take k) _ (nth l k) (by simp;omega)) ?_;simp (disch:=omega) only [go_sem,seval];refine cD ?_ ?_<;>intro h4<;>simp (disch:=omega) only [Sh.out h4,go_sem,seval]
    ·have e0:Yf x l k=6:=by rw [Yf,if_pos h3,if_pos h4]
     have e:WV x l=6:=by rw [UP hk2 hno (by rw [e0];decide),e0]
     have r:Kw x l=zeroI:=by rw [Kw,e];rfl
     simp only [e,r,zeroI,Zk];exact we
    ·exact ⟨k+1,⟨Za,Zp.2 ⟨hno,Wq.2 ⟨h3,h4⟩⟩⟩,Za,Weak.mk (by simp (disch:=omega) only [Zf,zeroI,Zk,go_sem,seval])⟩
  ·have hkl:k=l.length:=Za
   subst hkl;have e:WV x l=0:=B2 hno
   have r:Kw x l=UR x l:=by rw [Kw,if_pos e]
   rw [e,r];have c1:=sP x hs hcap (F4 x l) false (by have:=ND x l;omega);rw [NE,F5] at c1;have ho: ∀m,m<=(YS x 10).length->((YS x 10).take m).filter (fun v=>decide (v ∉ l))=((YS x 10).take m).filter (fun v=>decide (v ∉ l)):=fun _ _=>rfl;have c2:=Lf x hs;have hout:F4 x l=(YS x 10).filter fun v=>decide (v ∉ l):=rfl;rw [hout] at c1;generalize YS x 10=R at c1 c2 hrl;generalize UR x l=Y at c1;refine Zo (Weak.ofNil 8 2 (by simp (disch:=omega) only [go_sem,seval]) Zb (Weak.refl _ _ _)) ?_;refine Zh [16] _ _ _ _ ?_
   simp (disch:=omega) only [Zf,zeroI,Zk,go_sem,seval];refine (c2).use ?_;simp (disch:=omega) only [go_sem,seval];refine ZY [16] [1,2,4,31,32] (fun q:Nat×List Itm=> [(8,.sl 2 0 q.2.length q.2.length),(33,.p (.int .i64 q.1))]) (fun q=> [Zf x,Zf zeroI,.elems 2 (q.2.map Xg)]) (fun q=>q.1<=R.length/\q.2=(R.take q.1).filter fun v=>decide (v ∉ l)) (fun q=>R.length-q.1) (0,[]) ⟨Zb,Zb⟩ (Weak.mk ?_) ?_
   ·simp (disch:=omega) only [Zf,zeroI,Zk,go_sem,seval]
   ·rintro ⟨k,m⟩ ⟨hk,hm⟩;simp only at hk hm
    have hml:m.length<=k:=by
     have h1:=ED (fun v=>decide (v ∉ l)) (R.take k);rw [<- hm,Z7] at h1;omega
    simp (disch:=omega) only [Zf,zeroI,Zk,go_sem,seval];refine cD ?_ ?_<;>intro h5<;>simp (disch:=omega) only [Sh.out h5,go_sem,seval]
    ·have hk2:k<R.length:=Za
     have hsu:=MN (p:=fun v=>decide (v ∉ l)) hk2;refine (BX l c (nth R k) hl).use ?_;simp (disch:=omega) only [go_sem,seval];refine cD ?_ ?_<;>intro h6<;>simp (disch:=omega) only [Sh.out h6,go_sem,seval]
     ·exact ⟨(k+1,m++ [nth R k]),⟨by simp only;omega,by simp only [hsu,hm];rw [if_pos (by simpa using h6)]⟩,by simp only;omega,Weak.mk (by simp (disch:=omega) only [Zf,zeroI,Zk,go_sem,seval])⟩
     ·exact ⟨(k+1,m),⟨by simp only;omega,by simp only [hsu,hm];rw [if_neg (by simpa using h6),Yw]⟩,by simp only;omega,Weak.mk (by simp (disch:=omega) only [Zf,zeroI,Zk,go_sem,seval])⟩
    ·have hkl:k=R.length:=Za
     subst hkl;rw [XX] at hm;rw [<- hm] at c1;refine Zo (Weak.fz (o:=2) (by rfl)) ?_;refine Zh [] _ _ _ _ ?_;simp (disch:=omega) only [Zs,Zk,ZL,ZC,Zf,zeroI,go_sem,seval];refine YJ c1 ?_;simp (disch:=omega) only [Zf,zeroI,Zk,go_sem,seval];exact we
theorem P2 (x:Inst) (hx:InstOk x) (l:List Itm) (c:Bool) (hl:l.length<=1048576):PT 15 [.p (Zq x),.p (.list c (l.map Xg))] [.p (Zq (Kw x l)),.p (.int .i64 (WV x l))]:=by
 have hs:=UQ hx;have hcap:=M8 hx;have hrl:=Ui hs;have zI:Zq zeroI= .agg [.list true [],.list true [],.list true [],.list true [],.list true [],.list true []]:=rfl;refine Ze [9] Tryz.func15 rfl Zh2 ?_;simp (disch:=omega) only [Tryz.f15,go_sem,seval];refine ZY [9] [1,2,4] (fun k:Nat=> [(6,.p (.int .i64 k))]) (fun _=> [Zf x,Zf zeroI]) (fun k=>k<=l.length/\ ∀j,j<k->Yf x l j=0) (fun k=>l.length-k) 0 Zb (Weak.mk ?_) ?_
 ·simp (disch:=omega) only [Zf,zeroI,Zk,go_sem,seval]
 ·rintro k ⟨hk,hno⟩;simp (disch:=omega) only [Zf,zeroI,Zk,go_sem,seval];refine cD ?_ ?_<;>intro h<;>simp (disch:=omega) only [Sh.out h,go_sem,seval]
  ·have hk2:k<l.length:=Za
   refine Xd ?_;simp (disch:=omega) only [go_sem,seval];refine Zn (Gh x hs (nth l k)) ?_;simp (disch:=omega) only [go_sem,seval];refine cD ?_ ?_<;>intro h2<;>simp (disch:=omega) only [Sh.out h2,zI,go_sem,seval]
   ·have h3:Yj x (nth l k)=false:=by simpa using h2
    have e0:Yf x l k=7:=by rw [Yf,h3];rfl
    have e:WV x l=7:=by rw [UP hk2 hno (by rw [e0];decide),e0]
    have r:Kw x l=zeroI:=by rw [Kw,e];rfl
    simp only [e,r,zeroI,Zk];exact we
   ·have h3:Yj x (nth l k)=true:=by simpa using h2
    refine Xd ?_;simp (disch:=omega) only [go_sem,seval];refine Zn (iR (l.take k) _ (nth l k) (by simp;omega)) ?_;simp (disch:=omega) only [go_sem,seval];refine cD ?_ ?_<;>intro h4<;>simp (disch:=omega) only [Sh.out h4,go_sem,seval]
    ·have e0:Yf x l k=6:=by rw [Yf,if_pos h3,if_pos h4]
     have e:WV x l=6:=by rw [UP hk2 hno (by rw [e0];decide),e0]
     have r:Kw x l=zeroI:=by rw [Kw,e];rfl
     simp only [e,r,zeroI,Zk];exact we
    ·exact ⟨k+1,⟨Za,Zp.2 ⟨hno,Wq.2 ⟨h3,h4⟩⟩⟩,Za,Weak.mk (by simp (disch:=omega) only [Zf,zeroI,Zk,go_sem,seval])⟩
  ·have hkl:k=l.length:=Za
   subst hkl;have e:WV x l=0:=B2 hno
   have r:Kw x l=UR x l:=by rw [Kw,if_pos e]
   rw [e,r];have c1:=LN x hs hcap (F4 x l) false (by have:=ND x l;omega);rw [NE,F5] at c1;have c2:=NM x hs;have hout:F4 x l=(YS x 10).filter fun v=>decide (v ∉ l):=rfl;rw [hout] at c1;generalize YS x 10=R at c1 c2 hrl;generalize UR x l=Y at c1;refine Zo (Weak.ofNil 7 2 (by simp (disch:=omega) only [go_sem,seval]) Zb (Weak.refl _ _ _)) ?_;refine Zh [15] _ _ _ _ ?_;simp (disch:=omega) only [Zf,zeroI,Zk,go_sem,seval];refine (c2).use ?_;simp (disch:=omega) only [go_sem,seval];refine ZY [15] [1,2,4,8] (fun q:Nat×List Itm=> [(7,.sl 2 0 q.2.length q.2.length),(9,.p (.int .i64 q.1))]) (fun q=> [Zf x,Zf zeroI,.elems 2 (q.2.map Xg)]) (fun q=>q.1<=R.length/\q.2=(R.take q.1).filter fun v=>decide (v ∉ l)) (fun q=>R.length-q.1) (0,[]) ⟨Zb,Zb⟩ (Weak.mk ?_) ?_
   ·simp (disch:=omega) only [Zf,zeroI,Zk,go_sem,seval]
   ·rintro ⟨k,m⟩ ⟨hk,hm⟩;simp only at hk hm
    have hml:m.length<=k:=by
     have h1:=ED (fun v=>decide (v ∉ l)) (R.take k);rw [<- hm,Z7] at h1;omega
    simp (disch:=omega) only [Zf,zeroI,Zk,go_sem,seval];refine cD ?_ ?_<;>intro h5<;>simp (disch:=omega) only [Sh.out h5,go_sem,seval]
    ·have hk2:k<R.length:=Za
     have hsu:=MN (p:=fun v=>decide (v ∉ l)) hk2;refine (iR l c (nth R k) hl).use ?_;simp (disch:=omega) only [go_sem,seval];refine cD ?_ ?_<;>intro h6<;>simp (disch:=omega) only [Sh.out h6,go_sem,seval]
     ·exact ⟨(k+1,m++ [nth R k]),⟨by simp only;omega,by simp only [hsu,hm];rw [if_pos (by simpa using h6)]⟩,by simp only;omega,Weak.mk (by simp (disch:=omega) only [Zf,zeroI,Zk,go_sem,seval])⟩
     ·exact ⟨(k+1,m),⟨by simp only;omega,by simp only [hsu,hm];rw [if_neg (by simpa using h6),Yw]⟩,by simp only;omega,Weak.mk (by simp (disch:=omega) only [Zf,zeroI,Zk,go_sem,seval])⟩
    ·have hkl:k=R.length:=Za
     subst hkl;rw [XX] at hm;rw [<- hm] at c1;refine Zo (Weak.fz (o:=2) (by rfl)) ?_;refine Zh [] _ _ _ _ ?_;simp (disch:=omega) only [Zs,Zk,ZL,ZC,Zf,zeroI,go_sem,seval];refine YJ c1 ?_;simp (disch:=omega) only [Zf,zeroI,Zk,go_sem,seval];exact we
theorem mK (x:Inst) (hx:InstOk x) (hn:x.orders.length<=4):ACalls Tryz.prog 43 [.p (Zq x)] [] fun y H'=> ∃p c e,(c=Um x/\e=XU x)/\y= .tup [.p (JL p),.p (.int .i64 c),.p (.int .i64 e)]/\H'= []:=by
 have hs:=UQ hx;refine (mM x hx hn (by have:=hs.be;omega) (by have:=hs.ap;omega)).mono fun y H' h=> ?_;obtain ⟨p,_,rfl,rfl⟩:=h;exact ⟨p,_,_,⟨rfl,rfl⟩,rfl,rfl⟩
theorem SP (x:Inst) (hx:InstOk x) (hn:x.orders.length<=4):ACalls Tryz.prog 24 [.p (Zq x)] [] fun y H'=> ∃p c e,(c=Um x/\e=XU x)/\y= .tup [.p (JL p),.p (.int .i64 c),.p (.int .i64 e)]/\H'= []:=by
 have hs:=UQ hx;refine (mN x hx hn (by have:=hs.be;omega)).mono fun y H' h=> ?_;obtain ⟨p,_,rfl,rfl⟩:=h;exact ⟨p,_,_,⟨rfl,rfl⟩,rfl,rfl⟩
theorem PJ (x:Inst) (hx:InstOk x) (hn:x.orders.length<=4):PT 14 [.p (Zq x)] [.p (.bool (decide (XU x=0))),.p (.int .i64 0)]:=by
 have c1:=mK x hx hn;have h:=W3 hx hn;generalize XU x=e at c1 h;generalize Um x=c at c1;refine Ze [] Tryz.func14 rfl Zh1 ?_;simp (disch:=omega) only [Tryz.f14,go_sem,seval];refine Km c1 fun p c' e' hR=> ?_;obtain ⟨rfl,rfl⟩:=hR;rcases h with rfl | rfl
 ·simp (disch:=omega) only [go_sem,seval];exact we
 ·simp (disch:=omega) only [go_sem,seval];exact we
theorem PK (x:Inst) (hx:InstOk x) (hn:x.orders.length<=4):PT 52 [.p (Zq x)] [.p (.bool (decide (XU x=0))),.p (.int .i64 0)]:=by
 have c1:=SP x hx hn;have h:=W3 hx hn;generalize XU x=e at c1 h;generalize Um x=c at c1;refine Ze [] Tryz.func52 rfl Zix ?_;simp (disch:=omega) only [Tryz.f52,go_sem,seval];refine Km c1 fun p c' e' hR=> ?_;obtain ⟨rfl,rfl⟩:=hR;rcases h with rfl | rfl
 ·simp (disch:=omega) only [go_sem,seval];exact we
 ·simp (disch:=omega) only [go_sem,seval];exact we
noncomputable def O5 (x:Inst) (l:List Itm):Bool:=decide (WV x l=0)&&decide (XU (UR x l)=24)
noncomputable def Pn (x:Inst) (l:List Itm):Bool:=decide (WV x l=0)&&decide (XU (UR x l)=0)
theorem pU (x:Inst) (hx:InstOk x) (hn:x.orders.length<=4) (l:List Itm) (c:Bool) (hl:l.length<=1048576):PT 46 [.p (Zq x),.p (.list c (l.map Xg))] [.p (.bool (O5 x l)),.p (.int .i64 (WV x l))]:=by
 have c1:=T7 x hx l c hl;have c2:=PJ (UR x l) (Lh hx) (by rw [FL];exact hn);have h:=FN hx hn l;refine Ze [] Tryz.func46 rfl Zir ?_;simp (disch:=omega) only [Tryz.f46,go_sem,seval];refine YJ c1 ?_;simp (disch:=omega) only [go_sem,seval]
 by_cases e0:WV x l=0
 ·have k:Kw x l=UR x l:=by rw [Kw,if_pos e0]
  have b:O5 x l=decide (XU (UR x l)=24):=by rw [O5,e0];rfl
  rw [k,e0,b];generalize UR x l=Y at c2 h;generalize XU Y=s at c2 h;simp (disch:=omega) only [go_sem,seval];refine YJ c2 ?_;rcases h with rfl | rfl
  ·simp (disch:=omega) only [go_sem,seval];exact we
  ·simp (disch:=omega) only [go_sem,seval];exact we
 ·have b:O5 x l=false:=by rw [O5,Qd e0];rfl
  rw [b];refine cD ?_ ?_<;>intro h1<;>simp (disch:=omega) only [Sh.out h1,go_sem,seval]
  ·exact we
  ·exact absurd (Z2.1 h1) e0
theorem Zcs (x:Inst) (hx:InstOk x) (hn:x.orders.length<=4) (l:List Itm) (c:Bool) (hl:l.length<=1048576):PT 48 [.p (Zq x),.p (.list c (l.map Xg))] [.p (.bool (Pn x l)),.p (.int .i64 (WV x l))]:=by
 have c1:=P2 x hx l c hl;have c2:=PK (UR x l) (Lh hx) (by rw [FL];exact hn);have h:=FN hx hn l;refine Ze [] Tryz.func48 rfl Zit ?_;simp (disch:=omega) only [Tryz.f48,go_sem,seval];refine YJ c1 ?_;simp (disch:=omega) only [go_sem,seval]
 by_cases e0:WV x l=0
 ·have k:Kw x l=UR x l:=by rw [Kw,if_pos e0]
  have b:Pn x l=decide (XU (UR x l)=0):=by rw [Pn,e0];rfl
  rw [k,e0,b];generalize UR x l=Y at c2 h;generalize XU Y=s at c2 h;simp (disch:=omega) only [go_sem,seval];refine YJ c2 ?_;simp (disch:=omega) only [go_sem,seval];exact we
 ·have b:Pn x l=false:=by rw [Pn,Qd e0];rfl
  rw [b];refine cD ?_ ?_<;>intro h1<;>simp (disch:=omega) only [Sh.out h1,go_sem,seval]
  ·exact we
  ·exact absurd (Z2.1 h1) e0
theorem HQ {x:Inst} {l:List Itm} {k:Nat} (h:k<l.length):CC x (l.length-k) l k=if XU (UR x (l.eraseIdx k))=24 then CC x ((l.eraseIdx k).length-k) (l.eraseIdx k) k else CC x (l.length-(k+1)) l (k+1):=by
 have hl:(l.eraseIdx k).length=l.length-1:=by rw [List.length_eraseIdx,if_pos h]
 rw [hl,show l.length-k=(l.length-(k+1))+1 by omega,CC,if_pos h,show l.length-1-k=l.length-(k+1) by omega]
theorem HP {x:Inst} {l:List Itm} :CC x (l.length-l.length) l l.length=l:=by rw [AB,CC]
theorem RU {l m:List Itm} (h:l.Sublist m) (k:Nat):(l.eraseIdx k).Sublist m:=(List.eraseIdx_sublist l k).trans h
theorem aF (x:Inst) (hx:InstOk x) (hn:x.orders.length<=4):PT 27 [.p (Zq x)] [.p (.list (decide (XU x=0)) ((Kb x).map Xg)),.p (.int .i64 (Ka x))]:=by
 have c1:=PJ x hx hn;have c2:=Lf x (UQ hx);have hrl:=Ui (UQ hx);have h:=W3 hx hn;refine Ze [] Tryz.func27 rfl Zib ?_;simp (disch:=omega) only [Tryz.f27,go_sem,seval];refine YJ c1 ?_;rcases h with h | h
 ·have e1:Kb x= []:=by rw [Kb,h];rfl
  have e2:Ka x=9:=by rw [Ka,h];rfl
  rw [e1,e2,h];simp (disch:=omega) only [go_sem,seval];exact we
 ·have e1:Kb x=jV x:=by rw [Kb,if_pos h]
  have e2:Ka x=0:=by rw [Ka,if_pos h]
  rw [e1,e2,h];simp (disch:=omega) only [go_sem,seval];refine (c2).use ?_;simp (disch:=omega) only [go_sem,seval];refine Zl [1] (fun q:Nat×List Itm=> [(6,.p (.list false (q.2.map Xg))),(7,.p (.int .i64 q.1))]) (fun _=> [Zf x]) (fun q=>q.1<=q.2.length/\q.2.Sublist (YS x 10)/\CC x (q.2.length-q.1) q.2 q.1=jV x) (fun q=>q.2.length-q.1) (0,YS x 10) ⟨Zb,List.Sublist.refl _,rfl⟩ (Weak.mk ?_) ?_
  ·simp (disch:=omega) only [Zf,go_sem,seval]
  ·rintro ⟨k,l⟩ ⟨hk,hsub,hm⟩;simp only at hk hsub hm;have hll:=hsub.length_le;simp (disch:=omega) only [Zf,go_sem,seval];refine cD ?_ ?_<;>intro h1<;>simp (disch:=omega) only [Sh.out h1,go_sem,seval]
   ·have hk2:k<l.length:=Za
    have hst:=HQ (x:=x) hk2;rw [hm] at hst
    have hel:(l.eraseIdx k).length=l.length-1:=by rw [List.length_eraseIdx,if_pos hk2]
    have hes:=RU hsub k
    have hb:O5 x (l.eraseIdx k)=decide (XU (UR x (l.eraseIdx k))=24):=by rw [O5,CT hes];rfl
    refine (Ov l false k hk2 Za).use ?_;simp (disch:=omega) only [go_sem,seval];have c3:=pU x hx hn (l.eraseIdx k) false Za;rw [CT hes,hb] at c3;refine YJ c3 ?_;simp (disch:=omega) only [go_sem,seval];refine cD ?_ ?_<;>intro h2<;>simp (disch:=omega) only [Sh.out h2,go_sem,seval]
    ·rw [if_pos h2] at hst;exact ⟨(k,l.eraseIdx k),⟨by simp only;omega,hes,hst.symm⟩,by simp only;omega,Weak.mk (by simp (disch:=omega) only [Zf,go_sem,seval])⟩
    ·rw [if_neg h2] at hst;exact ⟨(k+1,l),⟨by simp only;omega,hsub,hst.symm⟩,by simp only;omega,Weak.mk (by simp (disch:=omega) only [Zf,go_sem,seval])⟩
   ·have hkl:k=l.length:=Za
    subst hkl;rw [HP] at hm;rw [<- hm];exact we
theorem P3 (x:Inst) (hx:InstOk x) (hn:x.orders.length<=4):PT 53 [.p (Zq x)] [.p (.list (decide (XU x=0)) ((Kb x).map Xg)),.p (.int .i64 (Ka x))]:=by
 have c1:=PK x hx hn;have c2:=NM x (UQ hx);have hrl:=Ui (UQ hx);have h:=W3 hx hn;refine Ze [] Tryz.func53 rfl Ziy ?_;simp (disch:=omega) only [Tryz.f53,go_sem,seval];refine YJ c1 ?_;rcases h with h | h
 ·have e1:Kb x= []:=by rw [Kb,h];rfl
  have e2:Ka x=9:=by rw [Ka,h];rfl
  rw [e1,e2,h];simp (disch:=omega) only [go_sem,seval];exact we
 ·have e1:Kb x=jV x:=by rw [Kb,if_pos h]
  have e2:Ka x=0:=by rw [Ka,if_pos h]
  rw [e1,e2,h];simp (disch:=omega) only [go_sem,seval];refine (c2).use ?_;simp (disch:=omega) only [go_sem,seval];refine Zl [1] (fun q:Nat×List Itm=> [(6,.p (.list false (q.2.map Xg))),(7,.p (.int .i64 q.1))]) (fun _=> [Zf x]) (fun q=>q.1<=q.2.length/\q.2.Sublist (YS x 10)/\CC x (q.2.length-q.1) q.2 q.1=jV x) (fun q=>q.2.length-q.1) (0,YS x 10) ⟨Zb,List.Sublist.refl _,rfl⟩ (Weak.mk ?_) ?_
  ·simp (disch:=omega) only [Zf,go_sem,seval]
  ·rintro ⟨k,l⟩ ⟨hk,hsub,hm⟩;simp only at hk hsub hm;have hll:=hsub.length_le;simp (disch:=omega) only [Zf,go_sem,seval];refine cD ?_ ?_<;>intro h1<;>simp (disch:=omega) only [Sh.out h1,go_sem,seval]
   ·have hk2:k<l.length:=Za
    have hst:=HQ (x:=x) hk2;rw [hm] at hst
    have hel:(l.eraseIdx k).length=l.length-1:=by rw [List.length_eraseIdx,if_pos hk2]
    have hes:=RU hsub k;have he:=FN hx hn (l.eraseIdx k)
    have hb:Pn x (l.eraseIdx k)=decide (XU (UR x (l.eraseIdx k))=0):=by rw [Pn,CT hes];rfl
    refine (jK l false k hk2 Za).use ?_;simp (disch:=omega) only [go_sem,seval];have c3:=Zcs x hx hn (l.eraseIdx k) false Za;rw [CT hes,hb] at c3;refine YJ c3 ?_;simp (disch:=omega) only [go_sem,seval];refine cD ?_ ?_<;>intro h2<;>simp (disch:=omega) only [Sh.out h2,go_sem,seval]
    ·rw [if_neg Za] at hst;exact ⟨(k+1,l),⟨by simp only;omega,hsub,hst.symm⟩,by simp only;omega,Weak.mk (by simp (disch:=omega) only [Zf,go_sem,seval])⟩
    ·rw [if_pos Za] at hst;exact ⟨(k,l.eraseIdx k),⟨by simp only;omega,hes,hst.symm⟩,by simp only;omega,Weak.mk (by simp (disch:=omega) only [Zf,go_sem,seval])⟩
   ·have hkl:k=l.length:=Za
    subst hkl;rw [HP] at hm;rw [<- hm];exact we
def Yx (x:Inst) (i:Int):Int:=if i<0\/(x.orders.length:Int)<=i then 7 else if (nth x.orders i.toNat).off=true then 9 else 0
theorem U2 {x:Inst} {i:Int} (h:Yx x i=0):0<=i/\i.toNat<x.orders.length/\(nth x.orders i.toNat).off=false:=by
 unfold Yx at h
 split at h
 ·simp at h
 ·split at h
  ·simp at h
  ·rename_i h1 h2;exact ⟨Za,Za,by simpa using h2⟩
def Uc (z x:Inst) (i:Int):Inst:=if Yx x i=0 then YG x i.toNat else z
theorem Px (x:Inst) (i:Int) (ho:x.orders.length<=1048576):PT 51 [.p (Zq x),.p (.int .i64 i)] [.p (Zq (Uc zeroI x i)),.p (.int .i64 (Yx x i))]:=by
 have zI:Zq zeroI= .agg [.list true [],.list true [],.list true [],.list true [],.list true [],.list true []]:=rfl;refine Ze [7] Tryz.func51 rfl Ziw ?_;simp (disch:=omega) only [Tryz.f51,go_sem,seval];refine gF ?_ ?_<;>intro h1<;>simp (disch:=omega) only [Sh.out h1,go_sem,seval]
 ·have e:Yx x i=7:=by rw [Yx,if_pos Za]
  have v:Uc zeroI x i=zeroI:=by rw [Uc,e];rfl
  rw [e,v];simp only [zeroI,Zk];exact we
 ·refine cD ?_ ?_<;>intro h2<;>simp (disch:=omega) only [Sh.out h2,go_sem,seval]
  ·have e:Yx x i=7:=by rw [Yx,if_pos Za]
   have v:Uc zeroI x i=zeroI:=by rw [Uc,e];rfl
   rw [e,v];simp only [zeroI,Zk];exact we
  ·have hi:i.toNat<x.orders.length:=Za
   have n1: ¬(i<0\/(x.orders.length:Int)<=i):=Za
   refine cD ?_ ?_<;>intro h3<;>simp (disch:=omega) only [Sh.out h3,go_sem,seval]
   ·have e:Yx x i=9:=by rw [Yx,if_neg n1,if_pos h3]
    have v:Uc zeroI x i=zeroI:=by rw [Uc,e];rfl
    rw [e,v];simp only [zeroI,Zk];exact we
   ·have e:Yx x i=0:=by rw [Yx,if_neg n1,if_neg (by rw [h3];simp)]
    obtain ⟨os,hos⟩: ∃os,os=x.orders.set i.toNat { nth x.orders i.toNat with penalty:= -1 } :=⟨_,rfl⟩
    have v:Uc zeroI x i= { x with orders_c:=false,orders:=os } :=by rw [Uc,if_pos e,YG,hos]
    have ZK:(x.orders.map eOrd).set i.toNat (eOrd { nth x.orders i.toNat with penalty:= -1 })=os.map eOrd:=by rw [hos,UD]
    have hml:(x.orders.map eOrd).length=x.orders.length:=Zx ..;have hel:Kv (x.orders.map eOrd) i.toNat=eOrd (nth x.orders i.toNat):=Vm hi;simp only [RR] at ZK
    have hsl:os.length=x.orders.length:=by rw [hos];exact Vs ..
    rw [e,v];refine (A4 x.orders x.orders_c ho).useF ?_;simp (disch:=omega) only [go_sem,seval];simp only [ZK];rw [<- hsl];refine Zo (Weak.fz (o:=2) (by rfl)) ?_;refine Zh [] _ _ _ _ ?_;simp (disch:=omega) only [Zs,Zk,ZL,ZC,go_sem,seval];exact we
theorem SF (x:Inst) (i:Int) (ho:x.orders.length<=1048576):PT 23 [.p (Zq x),.p (.int .i64 i)] [.p (Zq (Uc x x i)),.p (.int .i64 (Yx x i))]:=by
 refine Ze [6,8] Tryz.func23 rfl Zh7 ?_;simp (disch:=omega) only [Tryz.f23,go_sem,seval];refine gF ?_ ?_<;>intro h1<;>simp (disch:=omega) only [Sh.out h1,go_sem,seval]
 ·have e:Yx x i=7:=by rw [Yx,if_pos Za]
  have v:Uc x x i=x:=by rw [Uc,e];rfl
  rw [e,v];exact we
 ·refine cD ?_ ?_<;>intro h2<;>simp (disch:=omega) only [Sh.out h2,go_sem,seval]
  ·have e:Yx x i=7:=by rw [Yx,if_pos Za]
   have v:Uc x x i=x:=by rw [Uc,e];rfl
   rw [e,v];exact we
  ·have hi:i.toNat<x.orders.length:=Za
   have n1: ¬(i<0\/(x.orders.length:Int)<=i):=Za
   refine cD ?_ ?_<;>intro h3<;>simp (disch:=omega) only [Sh.out h3,go_sem,seval]
   ·have e:Yx x i=9:=by rw [Yx,if_neg n1,if_pos h3]
    have v:Uc x x i=x:=by rw [Uc,e];rfl
    rw [e,v];exact we
   ·have e:Yx x i=0:=by rw [Yx,if_neg n1,if_neg (by rw [h3];simp)]
    obtain ⟨os,hos⟩: ∃os,os=x.orders.set i.toNat { nth x.orders i.toNat with penalty:= -1 } :=⟨_,rfl⟩
    have v:Uc x x i= { x with orders_c:=false,orders:=os } :=by rw [Uc,if_pos e,YG,hos]
    have ZK:(x.orders.map eOrd).set i.toNat (eOrd { nth x.orders i.toNat with penalty:= -1 })=os.map eOrd:=by rw [hos,UD]
    have hml:(x.orders.map eOrd).length=x.orders.length:=Zx ..;have hel:Kv (x.orders.map eOrd) i.toNat=eOrd (nth x.orders i.toNat):=Vm hi;simp only [RR] at ZK
    have hsl:os.length=x.orders.length:=by rw [hos];exact Vs ..
    rw [e,v];refine Zo (Weak.ofNil 6 16 (by simp (disch:=omega) only [go_sem,seval]) Zb (Weak.refl _ _ _)) ?_;refine Zh [8] _ _ _ _ ?_;simp (disch:=omega) only [go_sem,seval];simp only [ZK];rw [<- hsl];refine Zo (Weak.fz (o:=2) (by rfl)) ?_;refine Zh [] _ _ _ _ ?_;simp (disch:=omega) only [Zs,Zk,ZL,ZC,go_sem,seval];exact we
noncomputable def Da (x:Inst) (i:Int):List Itm:=if Yx x i=0 then Kb (YG x i.toNat) else []
noncomputable def A2 (x:Inst) (i:Int):Int:=if Yx x i=0 then Ka (YG x i.toNat) else Yx x i
noncomputable def Em (x:Inst) (i:Int):Bool:=decide (Yx x i≠0)||decide (XU (YG x i.toNat)=0)
theorem CD {x:Inst} {i:Nat} :(YG x i).orders.length=x.orders.length:=Vs ..
theorem wD (x:Inst) (hx:InstOk x) (hn:x.orders.length<=4) (i:Int):PT 20 [.p (Zq x),.p (.int .i64 i)] [.p (.list (Em x i) ((Da x i).map Xg)),.p (.int .i64 (A2 x i))]:=by
 have c1:=Px x i Za;refine Ze [] Tryz.func20 rfl vI ?_;simp (disch:=omega) only [Tryz.f20,go_sem,seval];refine YJ c1 ?_;simp (disch:=omega) only [go_sem,seval]
 by_cases e0:Yx x i=0
 ·obtain ⟨h1,h2,h3⟩:=U2 e0;have hy:=Bq hx h2
  have hyn:(YG x i.toNat).orders.length<=4:=by rw [CD];exact hn
  have c2:=PJ _ hy hyn;have c3:=aF _ hy hyn;have he:=W3 hy hyn
  have v1:Uc zeroI x i=YG x i.toNat:=by rw [Uc,if_pos e0]
  have v2:Da x i=Kb (YG x i.toNat):=by rw [Da,if_pos e0]
  have v3:A2 x i=Ka (YG x i.toNat):=by rw [A2,if_pos e0]
  have v4:Em x i=decide (XU (YG x i.toNat)=0):=by rw [Em,e0];rfl
  rw [v1,v2,v3,v4,e0];generalize YG x i.toNat=Y at c2 c3 he;simp (disch:=omega) only [go_sem,seval];refine YJ c2 ?_;rcases he with h | h
  ·have e1:Kb Y= []:=by rw [Kb,h];rfl
   have e2:Ka Y=9:=by rw [Ka,h];rfl
   rw [e1,e2,h];simp (disch:=omega) only [go_sem,seval];exact we
  ·rw [h] at c3 ⊢;simp (disch:=omega) only [go_sem,seval];refine YJ c3 ?_;simp (disch:=omega) only [go_sem,seval];exact we
 ·have v2:Da x i= []:=by rw [Da,if_neg e0]
  have v3:A2 x i=Yx x i:=by rw [A2,if_neg e0]
  have v4:Em x i=true:=by rw [Em,UB e0];rfl
  rw [v2,v3,v4];refine cD ?_ ?_<;>intro h1<;>simp (disch:=omega) only [Sh.out h1,go_sem,seval]
  ·exact we
  ·exact absurd (Z2.1 h1) e0
theorem Zc1 (x:Inst) (hx:InstOk x) (hn:x.orders.length<=4) (i:Int):PT 21 [.p (Zq x),.p (.int .i64 i)] [.p (.list (Em x i) ((Da x i).map Xg)),.p (.int .i64 (A2 x i))]:=by
 have c1:=SF x i Za;refine Ze [] Tryz.func21 rfl Zh5 ?_;simp (disch:=omega) only [Tryz.f21,go_sem,seval];refine YJ c1 ?_;simp (disch:=omega) only [go_sem,seval]
 by_cases e0:Yx x i=0
 ·obtain ⟨h1,h2,h3⟩:=U2 e0;have hy:=Bq hx h2
  have hyn:(YG x i.toNat).orders.length<=4:=by rw [CD];exact hn
  have c2:=PK _ hy hyn;have c3:=P3 _ hy hyn;have he:=W3 hy hyn
  have v1:Uc x x i=YG x i.toNat:=by rw [Uc,if_pos e0]
  have v2:Da x i=Kb (YG x i.toNat):=by rw [Da,if_pos e0]
  have v3:A2 x i=Ka (YG x i.toNat):=by rw [A2,if_pos e0]
  have v4:Em x i=decide (XU (YG x i.toNat)=0):=by rw [Em,e0];rfl
  rw [v1,v2,v3,v4,e0];generalize YG x i.toNat=Y at c2 c3 he;simp (disch:=omega) only [go_sem,seval];refine YJ c2 ?_;rcases he with h | h
  ·have e1:Kb Y= []:=by rw [Kb,h];rfl
   have e2:Ka Y=9:=by rw [Ka,h];rfl
   rw [e1,e2,h];simp (disch:=omega) only [go_sem,seval];exact we
  ·rw [h] at c3 ⊢;simp (disch:=omega) only [go_sem,seval];refine YJ c3 ?_;simp (disch:=omega) only [go_sem,seval];exact we
 ·have v2:Da x i= []:=by rw [Da,if_neg e0]
  have v3:A2 x i=Yx x i:=by rw [A2,if_neg e0]
  have v4:Em x i=true:=by rw [Em,UB e0];rfl
  rw [v2,v3,v4];refine cD ?_ ?_<;>intro h1<;>simp (disch:=omega) only [Sh.out h1,go_sem,seval]
  ·exact we
  ·exact absurd (Z2.1 h1) e0
noncomputable def JJ (x:Inst) (i:Int):Int:=if Yx x i=0 then (if XU x=0 then XU (YG x i.toNat) else XU x) else Yx x i
noncomputable def Ec (x:Inst) (i:Int):Int:=if JJ x i=0 then Um (YG x i.toNat)-Um x else 0
theorem TG (x:Inst) (hx:InstOk x) (hn:x.orders.length<=4) (i:Int):PT 25 [.p (Zq x),.p (.int .i64 i)] [.p (.int .i64 (Ec x i)),.p (.int .i64 (JJ x i))]:=by
 have c1:=Px x i Za;have c2:=mK x hx hn;have he:=W3 hx hn;have hr:=EY hx hn;refine Ze [] Tryz.func25 rfl Zh9 ?_;simp (disch:=omega) only [Tryz.f25,go_sem,seval];refine YJ c1 ?_;simp (disch:=omega) only [go_sem,seval]
 by_cases e0:Yx x i=0
 ·obtain ⟨h1,h2,h3⟩:=U2 e0;have hy:=Bq hx h2
  have hyn:(YG x i.toNat).orders.length<=4:=by rw [CD];exact hn
  have c3:=mK _ hy hyn;have he2:=W3 hy hyn;have hr2:=EY hy hyn
  have v1:Uc zeroI x i=YG x i.toNat:=by rw [Uc,if_pos e0]
  have v2:JJ x i=if XU x=0 then XU (YG x i.toNat) else XU x:=by rw [JJ,if_pos e0]
  rw [Ec,v1,v2,e0];generalize YG x i.toNat=Y at c3 he2 hr2;generalize XU x=e at c2 he;generalize Um x=a at c2 hr;generalize XU Y=f at c3 he2;generalize Um Y=b at c3 hr2;simp (disch:=omega) only [go_sem,seval];refine Km c2 fun p c' e' hR=> ?_;obtain ⟨rfl,rfl⟩:=hR;rcases he with rfl | rfl
  ·simp (disch:=omega) only [go_sem,seval];refine Km c3 fun p c' e' hR=> ?_;obtain ⟨rfl,rfl⟩:=hR;rcases he2 with rfl | rfl
   ·simp (disch:=omega) only [go_sem,seval];exact we
   ·simp (disch:=omega) only [go_sem,seval];exact we
  ·simp (disch:=omega) only [go_sem,seval];exact we
 ·have v2:JJ x i=Yx x i:=by rw [JJ,if_neg e0]
  have v3:Ec x i=0:=by rw [Ec,v2,if_neg e0]
  rw [v2,v3];refine cD ?_ ?_<;>intro h1<;>simp (disch:=omega) only [Sh.out h1,go_sem,seval]
  ·exact we
  ·exact absurd (Z2.1 h1) e0
theorem PW (x:Inst) (hx:InstOk x) (hn:x.orders.length<=4) (i:Int):PT 26 [.p (Zq x),.p (.int .i64 i)] [.p (.int .i64 (Ec x i)),.p (.int .i64 (JJ x i))]:=by
 have c1:=SF x i Za;have c2:=SP x hx hn;have he:=W3 hx hn;have hr:=EY hx hn;refine Ze [] Tryz.func26 rfl Zia ?_;simp (disch:=omega) only [Tryz.f26,go_sem,seval];refine YJ c1 ?_;simp (disch:=omega) only [go_sem,seval]
 by_cases e0:Yx x i=0
 ·obtain ⟨h1,h2,h3⟩:=U2 e0;have hy:=Bq hx h2
  have hyn:(YG x i.toNat).orders.length<=4:=by rw [CD];exact hn
  have c3:=SP _ hy hyn;have he2:=W3 hy hyn;have hr2:=EY hy hyn
  have v1:Uc x x i=YG x i.toNat:=by rw [Uc,if_pos e0]
  have v2:JJ x i=if XU x=0 then XU (YG x i.toNat) else XU x:=by rw [JJ,if_pos e0]
  rw [Ec,v1,v2,e0];generalize YG x i.toNat=Y at c3 he2 hr2;generalize XU x=e at c2 he;generalize Um x=a at c2 hr;generalize XU Y=f at c3 he2;generalize Um Y=b at c3 hr2;simp (disch:=omega) only [go_sem,seval];refine Km c2 fun p c' e' hR=> ?_;obtain ⟨rfl,rfl⟩:=hR;simp (disch:=omega) only [go_sem,seval];refine Km c3 fun p c' e' hR=> ?_;obtain ⟨rfl,rfl⟩:=hR;rcases he with rfl | rfl
  ·rcases he2 with rfl | rfl
   ·simp (disch:=omega) only [go_sem,seval];exact we
   ·simp (disch:=omega) only [go_sem,seval];exact we
  ·simp (disch:=omega) only [go_sem,seval];exact we
 ·have v2:JJ x i=Yx x i:=by rw [JJ,if_neg e0]
  have v3:Ec x i=0:=by rw [Ec,v2,if_neg e0]
  rw [v2,v3];refine cD ?_ ?_<;>intro h1<;>simp (disch:=omega) only [Sh.out h1,go_sem,seval]
  ·exact we
  ·exact absurd (Z2.1 h1) e0
theorem T2 (a b:List Itm) (c d:Bool) (ha:a.length<=1048576) (hb:b.length<=1048576):PC 22 [.p (.list c (a.map Xg)),.p (.list d (b.map Xg))] (.bool (decide (a=b))):=by
 refine Zc Tryz.func22 rfl Zh6 ?_;simp (disch:=omega) only [Tryz.f22,go_sem,seval];refine cD ?_ ?_<;>intro h<;>simp (disch:=omega) only [Sh.out h,go_sem,seval]
 ·have: ¬a=b:=fun e=>h (by rw [e]);simp [this]
 ·have hab:a.length=b.length:=Za
  refine Zl [0,1] (fun k:Nat=> [(5,.p (.int .i64 k))]) (fun _=> []) (fun k=>k<=a.length/\ ∀j,j<k->nth a j=nth b j) (fun k=>a.length-k) 0 Zb (Weak.mk ?_) ?_
  ·simp (disch:=omega) only [go_sem,seval]
  ·rintro k ⟨hk,hno⟩;simp (disch:=omega) only [go_sem,seval];refine cD ?_ ?_<;>intro h2<;>simp (disch:=omega) only [Sh.out h2,go_sem,seval]
   ·have hk2:k<a.length:=Za
    have hk3:k<b.length:=Za
    refine Xd ?_;simp (disch:=omega) only [go_sem,seval];refine cD ?_ ?_<;>intro h3<;>simp (disch:=omega) only [Sh.out h3,go_sem,seval]
    ·have h4: ¬nth a k=nth b k:=fun e=>by rw [XE] at e;exact h3 e
     have: ¬a=b:=fun e=>h4 (by rw [e]);simp [this]
    ·have h4:nth a k=nth b k:=by rw [XE];exact Z2.1 h3
     exact ⟨k+1,⟨Za,Zp.2 ⟨hno,h4⟩⟩,Za,wk⟩
   ·have hkl:k=a.length:=Za
    have:a=b:=Qc hab fun i h1 h2=>by
     have:=hno i Za;rwa [Zj h1,Zj h2] at this
    simp [this]
theorem vF (x:Inst) (n:Int): ∃b:Bool,b=true↔GN x n:=by
 classical
 exact ⟨decide (GN x n),Zb⟩
theorem FQ {x:Inst} : ∀(f:Nat) (l:List Itm) (k:Nat),(CC x f l k).length<=l.length
 | 0,l,k=>by rw [CC];exact ZF _
 | f+1,l,k=>by
  rw [CC]
  split
  ·split
   ·exact JZ (FQ f _ _) (List.length_eraseIdx_le l k)
   ·exact FQ f _ _
  ·exact ZF _
theorem jR {x:Inst} :(Kb x).length<=(YS x 10).length:=by
 unfold Kb
 split
 ·exact FQ _ _ _
 ·simp
theorem Oq {x:Inst} (hx:InstOk x) (hn:x.orders.length<=4) (i:Int):(Da x i).length<=1048576:=by
 unfold Da
 split
 ·rename_i h;have hy:=Bq hx (U2 h).2.1;have h1:=jR (x:=YG x i.toNat);have h2:=Ui (UQ hy);omega
 ·simp
theorem ZeJ (haw:PC 19 [] (.bool true)) (x:Inst) (hw:x.wf 1048576) (i:Int) :
  PC 5 [.p (Zq x),.p (.int .i64 i)] (.bool true):=by
 obtain ⟨b,hb⟩:=vF x 2;refine Vh [] Tryz.func5 rfl Znp ?_;simp (disch:=omega) only [Tryz.f5,go_sem,seval];refine (Hu x hw 2 b hb).use ?_;simp (disch:=omega) only [go_sem,seval]
 cases b with
 | false =>
  simp (disch:=omega) only [Wx,go_sem,seval];refine (haw).use ?_;simp (disch:=omega) only [go_sem,seval]
 | true =>
  simp (disch:=omega) only [Yn,go_sem,seval];obtain ⟨h1,_,_,_,_,_,hx⟩:=hb.1 rfl
  have hn:x.orders.length<=4:=Za
  have hl:=Oq hx hn i;refine YJ (wD x hx hn i) ?_;simp (disch:=omega) only [go_sem,seval];refine YJ (Zc1 x hx hn i) ?_;simp (disch:=omega) only [eq_self,W2,go_sem,seval];refine (T2 (Da x i) (Da x i) (Em x i) (Em x i) hl hl).use ?_;simp (disch:=omega) only [go_sem,seval]
  try simp (disch:=omega) only [eq_self,W2,go_sem,seval]
  refine (haw).use ?_;simp (disch:=omega) only [go_sem,seval]
  try simp
theorem G4 (haw:PC 19 [] (.bool true)) (x:Inst) (hw:x.wf 1048576) (i:Int) :
  PC 7 [.p (Zq x),.p (.int .i64 i)] (.bool true):=by
 obtain ⟨b,hb⟩:=vF x 2;refine Vh [] Tryz.func7 rfl Znq ?_;simp (disch:=omega) only [Tryz.f7,go_sem,seval];refine (Hu x hw 2 b hb).use ?_;simp (disch:=omega) only [go_sem,seval]
 cases b with
 | false =>
  simp (disch:=omega) only [Wx,go_sem,seval];refine (haw).use ?_;simp (disch:=omega) only [go_sem,seval]
 | true =>
  simp (disch:=omega) only [Yn,go_sem,seval];obtain ⟨h1,_,_,_,_,_,hx⟩:=hb.1 rfl
  have hn:x.orders.length<=4:=Za
  have hl:=Oq hx hn i;have hs:=SP x hx hn;have hwy:=wD x hx hn i
  have hc:0<=Ec x i/\(XU x=0->JJ x i=0\/JJ x i=24->(JJ x i=24↔A2 x i=0)):=by
   by_cases e0:Yx x i=0
   ·obtain ⟨g1,g2,g3⟩:=U2 e0;have hy:=Bq hx g2
    have hyn:(YG x i.toNat).orders.length<=4:=by rw [CD];exact hn
    have he:=W3 hy hyn;have hms:=rD hx hn g2
    have v3:A2 x i=Ka (YG x i.toNat):=by rw [A2,if_pos e0]
    have v2:JJ x i=if XU x=0 then XU (YG x i.toNat) else XU x:=by rw [JJ,if_pos e0]
    refine ⟨?_,fun h0 _=> ?_⟩
    ·rw [Ec]
     split
     ·rename_i hz;rw [v2] at hz
      split at hz
      ·have:=hms hz;omega
      ·rename_i hnz;exact absurd hz hnz
     ·omega
    ·rw [v2,if_pos h0,v3,Ka]
     split<;>omega
   ·have v2:JJ x i=Yx x i:=by rw [JJ,if_neg e0]
    have v3:A2 x i=Yx x i:=by rw [A2,if_neg e0]
    refine ⟨?_,fun _ h=> ?_⟩
    ·rw [Ec,v2,if_neg e0];omega
    ·rw [v2,v3] at *
     have:Yx x i=7\/Yx x i=9\/Yx x i=0:=by unfold Yx;split<;>(try split)<;>omega
     omega
  obtain ⟨hc1,hc2⟩:=hc;refine YJ (TG x hx hn i) ?_;simp (disch:=omega) only [go_sem,seval];refine YJ (PW x hx hn i) ?_;generalize Ec x i=C at hc1;generalize JJ x i=E at hc2;generalize A2 x i=W at hc2 hwy;generalize XU x=S at hc2 hs;simp (disch:=omega) only [go_sem,seval];refine cD ?_ ?_<;>intro q0<;>simp (disch:=omega) only [Sh.out q0,go_sem,seval]
  ·exact absurd q0 Za
  ·refine Km hs fun p c' e' hR=> ?_;obtain ⟨_,rfl⟩:=hR;simp (disch:=omega) only [go_sem,seval];refine YJ hwy ?_;simp (disch:=omega) only [go_sem,seval]
   by_cases q1:e'=0
   ·by_cases q2:E=0
    ·have q4: ¬W=0:=by have:=hc2 q1 (.inl q2);omega
     subst q1 q2;simp (disch:=omega) only [q4,go_sem,seval];refine (haw).use ?_;simp (disch:=omega) only [go_sem,seval]
     try simp
    ·by_cases q3:E=24
     ·have q4:W=0:=by have:=hc2 q1 (.inr q3);omega
      subst q1 q3 q4;simp (disch:=omega) only [go_sem,seval];refine (haw).use ?_;simp (disch:=omega) only [go_sem,seval]
      try simp
     ·subst q1;simp (disch:=omega) only [q2,q3,go_sem,seval];refine (haw).use ?_;simp (disch:=omega) only [go_sem,seval]
      try simp
   ·simp (disch:=omega) only [q1,go_sem,seval];refine (haw).use ?_;simp (disch:=omega) only [go_sem,seval]
    try simp
theorem jM (x:Inst) (hs:ISz x) (g:Itm->List UInt8) (l:List Itm) (c:Bool) (hl:l.length<=1000) (h1: ∀v∈l,Yj x v=true->PC 83 [.p (Zq x),.p (Xg v)] (.str (g v)))
  (h0: ∀v∈l,Yj x v=false->g v= [117,110,107,110,111,119,110]):PC 50 [.p (Zq x),.p (.list c (l.map Xg))] (.list false ((l.map g).map eS)):=by
 refine ACalls.frozen (S:=1) (n:=(l.map g).length) Zb ?_
 suffices hh:ACalls Tryz.prog 50 [.p (Zq x),.p (.list c (l.map Xg))] [] fun y H'=> ∃m:List (List UInt8),m=l.map g/\y= .sl 0 0 m.length m.length/\H'= [.elems 1 (m.map eS)] by
  refine hh.mono ?_;rintro x H' ⟨m,rfl,h1,h2⟩;exact ⟨h1,h2⟩
 refine ZG [2] Tryz.func50 rfl Ziv ?_;simp (disch:=omega) only [Tryz.f50,go_sem,seval];refine Zo (Weak.ofNil 5 1 (by simp (disch:=omega) only [go_sem,seval]) Zb (Weak.refl _ _ _)) ?_;refine Zh [] _ _ _ _ ?_;simp (disch:=omega) only [go_sem,seval];refine Zl [2,8,9] (fun q:Nat×List (List UInt8)=> [(5,.sl 1 0 q.2.length q.2.length),(10,.p (.int .i64 q.1))]) (fun q=> [Zf x,.elems 1 (q.2.map eS)]) (fun q=>q.1<=l.length/\q.2=(l.take q.1).map g) (fun q=>l.length-q.1) (0,[]) ⟨Zb,Zb⟩ (Weak.mk ?_) ?_
 ·simp (disch:=omega) only [Zf,go_sem,seval]
 ·rintro ⟨k,m⟩ ⟨hk,hm⟩;simp only at hk hm
  have hml:m.length=k:=by rw [hm];simp;omega
  have hh:=R3 x hs (nth l k);simp (disch:=omega) only [Zf,go_sem,seval];refine cD ?_ ?_<;>intro h<;>simp (disch:=omega) only [Sh.out h,go_sem,seval]
  ·have hk2:k<l.length:=Za
   have hmm:=Zt hk2
   have hsn:(l.take (k+1)).map g=m++ [g (nth l k)]:=by rw [hm,XZ hk2,Zj hk2,Xn,Zs,Zk]
   cases hv:Yj x (nth l k) with
   | true =>
    rw [hv] at hh;refine (hh).use ?_;simp (disch:=omega) only [go_sem,seval];refine (h1 _ hmm hv).use ?_;simp (disch:=omega) only [go_sem,seval];exact ⟨(k+1,m++ [g (nth l k)]),⟨by simp only;omega,by simp only [hsn]⟩,by simp only;omega,Weak.mk (by simp (disch:=omega) only [Zf,go_sem,seval])⟩
   | false =>
    have e:=h0 _ hmm hv;rw [hv] at hh;refine (hh).use ?_;simp (disch:=omega) only [go_sem,seval];exact ⟨(k+1,m++ [g (nth l k)]),⟨by simp only;omega,by simp only [hsn]⟩,by simp only;omega,Weak.mk (by simp (disch:=omega) only [Zf,e,go_sem,seval])⟩
  ·have hkl:k=l.length:=Za
   subst hkl;exact ⟨m,by rw [hm,XX],1,by simp (disch:=omega) only [Zf,go_sem,seval]⟩
def exbX : Inst:= { net:= { places_c:=false,places:= [[72,117,98]],arcs_c:=true,arcs:= [] },types_c:=false,types:= [{ name:= [97],count:=1,src:=0,dst:=0,cap_c:=false,cap:= [5],cls:=100,drive:=50,opn:=0,rest:=0,skills:=0,fixed:=0,perMile:=0,perTick:=0,prof:=0 }],orders_c:=false,orders:= [{ name:= [109,105,108,107],load_c:=false,load:= [9],pick:=⟨-1,0,0,0⟩,drp:=⟨0,0,90,0⟩,skills:=0,penalty:=50,split:=1,last:= -1,now:= -1,off:=false }],apart_c:=true,apart:= [],before_c:=true,before:= [] }
theorem yW : ISz exbX:=⟨fun o hm=>by simp [exbX] at hm;subst hm;simp,by simp [exbX],by simp [exbX],by simp [exbX],by simp [exbX],by simp [exbX]⟩
def exbG (v:Itm):List UInt8:=if v.kind=3 then [99,97,112,97,99,105,116,121,32,111,102,32,97] else [117,110,107,110,111,119,110]
theorem gK : PC 83 [.p (Zq exbX),.p (Xg ⟨3,0⟩)] (.str (exbG ⟨3,0⟩)):=by
 refine Zc Tryz.func83 rfl ZiZ ?_;obtain ⟨X,hX⟩: ∃X,X=exbX:=⟨_,rfl⟩;rw [<- hX]
 have t1:X.types.length=1:=by rw [hX];rfl
 have t2:(nth X.types 0).name= [97]:=by rw [hX];rfl
 have t3:(nth X.types 0).name.length=1:=by rw [t2];rfl
 clear hX;simp (disch:=first | omega | (simp only [ZA,ZH,Zz,Zx,Z7,Xx]<;>omega)) only [Tryz.f83,go_sem,seval];simp [exbG,t2]
theorem Zdo (x:Inst) (i:Int) (ho:x.orders.length<=1048576) (e0:Yx x i≠0):PT 20 [.p (Zq x),.p (.int .i64 i)] [.p (.list true []),.p (.int .i64 (Yx x i))]:=by
 have c1:=Px x i ho;refine Ze [] Tryz.func20 rfl vI ?_;simp (disch:=omega) only [Tryz.f20,go_sem,seval];refine YJ c1 ?_;simp (disch:=omega) only [go_sem,seval];refine cD ?_ ?_<;>intro h1<;>simp (disch:=omega) only [Sh.out h1,go_sem,seval]
 ·exact we
 ·exact absurd (Z2.1 h1) e0
theorem yV : PC 19 [] (.bool true):=by
 have c1:=Zdo exbX 1 (by decide) (by decide);rw [show Yx exbX 1=7 from rfl] at c1
 have c2:=jM exbX yW exbG [⟨3,0⟩,⟨99,0⟩] false (by decide) (fun v hm hv=>by
  simp only [Z3,Wv,WT] at hm;rcases hm with rfl | rfl
  ·exact gK
  ·exact absurd hv (by decide)) (fun v hm hv=>by
  simp only [Z3,Wv,WT] at hm;rcases hm with rfl | rfl
  ·exact absurd hv (by decide)
  ·rfl)
 obtain ⟨R,hR⟩: ∃R:List (List UInt8),R= [⟨3,0⟩,⟨99,0⟩].map exbG:=⟨_,rfl⟩;rw [<- hR] at c2
 have r1:R.length=2:=by rw [hR];rfl
 have r2:nth R 0= [99,97,112,97,99,105,116,121,32,111,102,32,97]:=by rw [hR];rfl
 have r3:nth R 1= [117,110,107,110,111,119,110]:=by rw [hR];rfl
 clear hR;refine Vh [1,2,3,4] Tryz.func19 rfl Zh4 ?_;simp (disch:=omega) only [Tryz.f19,go_sem,seval];refine YU (IM 3 ?_);simp (disch:=omega) only [go_sem,seval];refine ⟨_,_,Weak.fz (o:=1) (by rfl),?_⟩;simp (disch:=omega) only [Zs,Zk,ZL,ZC,ZM,ZE,go_sem,seval];refine Zh [2,3,4] _ _ _ _ ?_;simp (disch:=omega) only [go_sem,seval];refine Zo (Weak.fz (o:=0) (by rfl)) ?_;refine Zo (Weak.fz (o:=2) (by rfl)) ?_;refine YU (IM 1 ?_);simp (disch:=omega) only [Zs,Zk,ZL,ZC,ZM,ZE,go_sem,seval]
 refine ⟨_,_,Weak.fz (o:=4) (by rfl),?_⟩;simp (disch:=omega) only [Zs,Zk,ZL,ZC,ZM,ZE,go_sem,seval];refine Zh [3,4] _ _ _ _ ?_;simp (disch:=omega) only [go_sem,seval];refine Zo (Weak.fz (o:=5) (by rfl)) ?_;refine Zh [4] _ _ _ _ ?_;simp (disch:=omega) only [Zs,Zk,ZL,ZC,go_sem,seval];refine YJ c1 ?_;simp (disch:=omega) only [go_sem,seval];refine YU (IM 4 ?_);simp (disch:=omega) only [Zs,Zk,ZL,ZC,ZM,ZE,go_sem,seval]
 refine ⟨_,_,Weak.fz (o:=6) (by rfl),?_⟩;simp (disch:=omega) only [Zs,Zk,ZL,ZC,ZM,ZE,go_sem,seval];refine (c2).use ?_;simp (disch:=omega) only [go_sem,seval];refine Zh [] _ _ _ _ ?_;simp (disch:=omega) only [r1,r2,r3,go_sem,seval]
theorem G3 (x:Inst) (hw:x.wf 1048576) (i:Int):PC 7 [.p (Zq x),.p (.int .i64 i)] (.bool true):=G4 yV x hw i
end Go.Proofs.YtjkkdmeebhjaiaaGreatDoor.K
