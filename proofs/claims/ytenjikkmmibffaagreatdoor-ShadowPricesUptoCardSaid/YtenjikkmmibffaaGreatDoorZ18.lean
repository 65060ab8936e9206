/- Declarations that the closing texts need, part 18: joined by tools/slim.py. -/
import Derived.Test.YtenjikkmmibffaaGreatDoorZ17
import Derived.Shelf.Slices.In.SortNone
import Derived.Shelf.Sort.Plain
set_option linter.unusedVariables false
set_option linter.unusedSimpArgs false
namespace Go.Proofs.YtenjikkmmibffaaGreatDoor.K
open Go Go.AM Go.Proofs
set_option maxRecDepth 8000
theorem E5 {x:Inst} (hx:InstOk x) {c:Col} (h:c∈XD x): ∃(k:Nat) (m:List Vis),k<x.types.length/\FY x k m=true/\c=YP x k (Xs m) m:=by
 obtain ⟨k,S,h1,h2,h3,h4,rfl⟩:=BL.1 h;have hf:=XH hx
 have hopn:0<=(nth x.types ((k:Nat):Int).toNat).opn:=by
  simp_all [WK]
 unfold VM at h4 ⊢
 split at h4
 ·rename_i hc;rw [if_pos hc];have hS:S / pw x.orders.length=0:=Qu h3;have ha:Alw x S:=(Qr (by have:=hf.len;omega) hS hf.val).1 hc.1;rw [OM hx Za hS ha hopn] at hc ⊢;rcases DK _ _ hc.2 with ⟨e,_⟩ | ⟨m,m1,m2,m3⟩
  ·cases e
  ·have m3:(BR x (k:Int) S (Ww,false)).1=_:=m3;simp only [C3,ZF,Zs] at m2;have hr:RightV x m:=WA (r:=Q3 (k:Int) m) (Ug m2.2.2);have e:=m2.1;rw [hr.ord hf] at e
   grind
 ·simp at h4
theorem rG {α β:Type} [Inhabited α] [Inhabited β] {f:α->β} {l:List α} {i:Nat} (h:i<l.length):nth (l.map f) i=f (nth l i):=by
 grind [Zh]
set_option maxHeartbeats 2000000
def R4 (f:Nat->Nat) (z:Int):Int:=if 0<=z then (f z.toNat:Nat) else z
theorem R5 {f:Nat->Nat} {z:Int} :0<=R4 f z↔0<=z:=by grind [R4]
theorem Dq {f:Nat->Nat} {a:List Int} {i:Nat} (h:i<a.length):nth (a.map (R4 f)) i=R4 f (nth a i):=rG h
structure Eas (x y:Inst) (l m:List Col) (f:Nat->Nat):Prop where
 len:y.orders.length=x.orders.length
 off: ∀k,k<x.orders.length->(nth y.orders k).off=(nth x.orders k).off
 col: ∀j,j<l.length->f j<m.length/\(nth m (f j)).typ=(nth l j).typ/\(nth m (f j)).set=(nth l j).set/\(nth m (f j)).price<=(nth l j).price
 cnt: ∀j,j<l.length->(nth x.types (nth l j).typ.toNat).count<=(nth y.types (nth l j).typ.toNat).count
 skp: ∀k,k<x.orders.length->(nth x.orders k).off=false->0<=(nth x.orders k).penalty->0<=(nth y.orders k).penalty/\skR y k<=skR x k
section
variable {x y : Inst} {l m : List Col} {f : Nat -> Nat} (h : Eas x y l m f)
include h
theorem Rt {a:List Int} (ha: ∀i,i<a.length->nth a i<l.length) {T:Int} : ∀n,n<=a.length->usdI m (a.map (R4 f)) T n<=usdI l a T n
 | 0,_=>ZD _
 | n+1,hn=>by
  have ih:=Rt ha (T:=T) n Za;rw [usdI,usdI]
  have hp:K2 m (a.map (R4 f)) T n=true->K2 l a T n=true:=by
   unfold K2;rw [Dq (show n<a.length by omega)];simp only [ZF,Zs];rintro ⟨h1,h2,h3⟩;have h0:=R5.1 h1;have hj:=h.col (nth a n).toNat (by grind)
   have e:(R4 f (nth a n)).toNat=f (nth a n).toNat:=by simp_all [R4]
   grind [B3,Dq]
  grind
theorem pU {a:List Int} {j:Nat} (hj:j<l.length):(VJ (nth l j).set.toNat a j).map (R4 f)=VJ (nth m (f j)).set.toNat (a.map (R4 f)) (f j:Nat):=by
 refine QY (by simp [VJ]) fun i h1 h2=> ?_
 have hi:i<a.length:=by grind [VJ]
 rw [<- Zh h1,<- Zh h2,Dq (by grind),Xx hi,Xx (by grind),(h.col j hj).2.2.1,Dq hi]
 split
 ·rfl
 ·rfl
theorem pT {a:List Int} {j k:Nat} (ha: ∀i,i<a.length->nth a i<l.length) (hj:j<l.length) (hc:Ki x l a j k=true):Ki y m (a.map (R4 f)) (f j) k=true:=by
 obtain ⟨c1,c2,c3,_⟩:=h.col j hj;unfold Ki at hc ⊢;simp only [ZF,Zs,J1] at hc ⊢;obtain ⟨h1,h2,h3⟩:=hc;rw [c2,c3,Z0];refine ⟨h1,?_,fun i hi hb=> ?_⟩
 ·have u:=Rt h ha (T:=(nth l j).typ) a.length (ZD _);have:=h.cnt j hj;omega
 simp_all [Dq,R4,if_neg]
theorem Et : ∀(d:Nat) (a:List Int) (p p':Int),d<=x.orders.length->a.length=x.orders.length->(∀i,i<a.length->nth a i<l.length)->p'<=p-> ∀q∈Q6 x l d a p,∃q'∈Q6 y m d (a.map (R4 f)) p',q'.2<=q.2
 | 0,a,p,p',_,_,_,hp,q,hq=>by
  simp_all [Q6]
 | d+1,a,p,p',hd,hl,ha,hp,q,hq=>by
  have hk:x.orders.length-(d+1)<x.orders.length:=Za
  rw [Q6] at hq;rw [Q6,h.len,h.off _ hk,Dq Za];simp only [R5]
  by_cases c:(nth x.orders (x.orders.length-(d+1))).off=true\/0<=nth a (x.orders.length-(d+1))
  ·rw [if_pos c] at hq ⊢;exact Et d a p p' Za hl ha hp q hq
  ·rw [if_neg c] at hq ⊢;rcases Xg.1 hq with hq | hq
   ·obtain ⟨j,hj,hq⟩:=XQ.1 hq;have hj:=ZL.1 hj
    split at hq
    ·rename_i hc;obtain ⟨c1,c2,c3,c4⟩:=h.col j hj
     obtain ⟨q',h1,h2⟩:=Et d (VJ (nth l j).set.toNat a j) (p+(nth l j).price) (p'+(nth m (f j)).price) Za (by rw [Uk];exact hl) (fun i hi=>by
      grind [Uk,Xx]) Za q hq
     rw [pU h hj] at h1;refine ⟨q',List.mem_append_left _ (XQ.2 ⟨f j,ZL.2 c1,?_⟩),h2⟩;rw [if_pos (pT h ha hj hc)];exact h1
    ·simp at hq
   ·split at hq
    ·rename_i hc;obtain ⟨s1,s2⟩:=h.skp _ hk (by grind) hc;obtain ⟨q',h1,h2⟩:=Et d a (p+skR x (x.orders.length-(d+1))) (p'+skR y (x.orders.length-(d+1))) Za hl ha Za q hq
     grind
    ·simp at hq
end
theorem H9 {l:List Col} : ∀(L:List (List Int×Int)) (b:Chc),(b.found=true->(L.foldl (YL l) b).found=true/\(L.foldl (YL l) b).price<=b.price)/\(∀q∈L,(L.foldl (YL l) b).found=true/\(L.foldl (YL l) b).price<=q.2)/\((L.foldl (YL l) b).found=true->L.foldl (YL l) b=b\/ ∃q∈L,(L.foldl (YL l) b).price=q.2)
 | [],b=>⟨fun h=>⟨h,Int.le_refl _⟩,fun q hq=>by simp at hq,fun _=> .inl rfl⟩
 | q::L,b=>by
  rw [XL];obtain ⟨i1,i2,i3⟩:=H9 (l:=l) L (YL l b q)
  have hf:(YL l b q).found=true/\(YL l b q).price<=q.2/\(b.found=true->(YL l b q).price<=b.price)/\(YL l b q=b\/(YL l b q).price=q.2):=by
   unfold YL
   grind
  obtain ⟨f1,f2,f3,f4⟩:=hf;obtain ⟨g1,g2⟩:=i1 f1;refine ⟨fun hb=>⟨g1,Int.le_trans g2 (f3 hb)⟩,fun q' hq=> ?_,fun hfo=> ?_⟩
  ·grind
  grind
noncomputable def D6 (x:Inst):List (List Int×Int):=Q6 x (XD x) x.orders.length (List.replicate x.orders.length (-1)) 0
theorem AO {x:Inst} (hx:InstOk x) (hn:x.orders.length<=4):(Wv x=24/\XX x=0/\D6 x= [])\/(Wv x=0/\(∃q∈D6 x,XX x=q.2)/\ ∀q∈D6 x,XX x<=q.2):=by
 obtain ⟨hl,_⟩:=Er hn (tR hx);have hr:=HR hx hn;obtain ⟨u1,u2,u3⟩:=H9 (l:=XD x) (D6 x) zCh;have ea:D3 x (XD x)=(D6 x).foldl (YL (XD x)) zCh:=rfl;rw [<- ea] at u1 u2 u3;obtain ⟨b,hb,h1,h2⟩:=LH x;rcases hb with ⟨k1,_⟩ | ⟨_,⟨c,kc,k2⟩,_⟩ | ⟨_,_,k3⟩
 ·omega
 ·grind
 ·rcases k3 with ⟨k4,rfl,k5⟩ | ⟨k4,rfl,k5⟩
  ·refine .inl ⟨k5,(h1 Za).2,?_⟩
   cases hc:D6 x with
   | nil=>rfl
   | cons q L =>
    grind
  ·have e:=(h2 k5).1;have e:XX x=(D3 x (XD x)).price:=e;refine .inr ⟨k5,?_,fun q hq=>by grind⟩;rcases u3 k4 with g | ⟨q,hq,g⟩
   ·rw [g] at k4;cases k4
   grind
theorem tA {x y:Inst} {f:Nat->Nat} (hx:InstOk x) (hy:InstOk y) (hn:x.orders.length<=4) (h:Eas x y (XD x) (XD y) f) (h0:Wv x=0):Wv y=0/\XX y<=XX x:=by
 rcases AO hx hn with ⟨g,_⟩ | ⟨_,⟨q,hq,e⟩,_⟩
 ·omega
 ·obtain ⟨q',h1,h2⟩:=Et h x.orders.length (List.replicate x.orders.length (-1)) 0 0 (ZD _) Zb (fun i hi=>by
   grind [EI]) (Int.le_refl _) q hq
  have em:(List.replicate x.orders.length (-1:Int)).map (R4 f)=List.replicate y.orders.length (-1):=by
   rw [Al,h.len];rfl
  rw [em] at h1
  have h1:q'∈D6 y:=by simp_all [D6]
  rcases AO hy (by simp_all) with ⟨_,_,g⟩ | ⟨g,_,g2⟩
  ·grind
  grind
theorem AP {x:Inst} (hx:InstOk x) (hn:x.orders.length<=4):Wv x=0\/Wv x=24:=by
 grind [AO]
theorem pO {x y:Inst} (hx:InstOk x) (hy:InstOk y) (ht:y.types.length=x.types.length) (hp: ∀(k:Nat) (m:List Vis),k<x.types.length->(YG x (Q3 k m)).2=0->(YG y (Q3 k m)).2=0/\(YG y (Q3 k m)).1<=(YG x (Q3 k m)).1) :
  ∃f:Nat->Nat,∀j,j<(XD x).length->(∃k:Nat,k<x.types.length/\(nth (XD x) j).typ=(k:Int))/\f j<(XD y).length/\(nth (XD y) (f j)).typ=(nth (XD x) j).typ/\(nth (XD y) (f j)).set=(nth (XD x) j).set/\(nth (XD y) (f j)).price<=(nth (XD x) j).price:=by
 have H: ∀j,j<(XD x).length-> ∃i,(∃k:Nat,k<x.types.length/\(nth (XD x) j).typ=(k:Int))/\i<(XD y).length/\(nth (XD y) i).typ=(nth (XD x) j).typ/\(nth (XD y) i).set=(nth (XD x) j).set/\(nth (XD y) i).price<=(nth (XD x) j).price:=fun j hj=>by
  obtain ⟨k,m,h1,h2,h3⟩:=E5 hx (Zt hj);have h4:(YG x (Q3 (k:Int) m)).2=0:=Ao h2;obtain ⟨h5,h6⟩:=hp k m h1 h4;obtain ⟨i,i1,i2,i3,i4⟩:=fJ hy h5 ⟨by show (0:Int)<=(k:Int);omega,by show (k:Int)<_;omega⟩ rfl rfl;rw [h3];exact ⟨i,⟨k,h1,rfl⟩,i1,i2,i3,Int.le_trans i4 h6⟩
 classical
 exact ⟨fun j=>if g:j<(XD x).length then Classical.choose (H j g) else 0,fun j g=>by
  grind⟩
theorem M1 {x:Inst} {l:List Col} (h: ∀k,k<x.orders.length->(nth x.orders k).off=false->0<=(nth x.orders k).penalty): ∀(d:Nat) (a:List Int) (p:Int),d<=x.orders.length->Q6 x l d a p≠ []
 | 0,a,p,_=>by simp [Q6]
 | d+1,a,p,hd=>by
  rw [Q6]
  split
  ·exact M1 h d a p Za
  ·rename_i c;have:=h (x.orders.length-(d+1)) Za (by grind);rw [if_pos this];intro e;exact M1 h d a _ Za (VY.1 e).2
theorem EG {x:Inst} {l:List Col} (hl: ∀j,j<l.length->0<=(nth l j).price/\(nth l j).price<=18014398509481984) (hs: ∀k,k<x.orders.length->(nth x.orders k).off=false->0<=(nth x.orders k).penalty->0<=skR x k/\skR x k<=18014398509481984) :
  ∀(d:Nat) (a:List Int) (p:Int),d<=x.orders.length-> ∀q∈Q6 x l d a p,p<=q.2/\q.2<=p+(d:Nat)*18014398509481984
 | 0,a,p,_,q,hq=>by
  simp_all [Q6]
 | d+1,a,p,hd,q,hq=>by
  have hk:x.orders.length-(d+1)<x.orders.length:=Za
  rw [Q6] at hq
  split at hq
  ·have:=EG hl hs d a p Za q hq;omega
  ·rename_i c;rcases Xg.1 hq with hq | hq
   ·obtain ⟨j,hj,hq⟩:=XQ.1 hq
    split at hq
    ·have h1:=hl j (ZL.1 hj);have:=EG hl hs d _ _ Za q hq;omega
    ·simp at hq
   ·split at hq
    ·rename_i hc;have h1:=hs _ hk (by grind) hc;have:=EG hl hs d _ _ Za q hq;omega
    ·simp at hq
theorem QE {x:Inst} (hx:InstOk x) (hn:x.orders.length<=4):0<=XX x/\XX x<=72057594037927936:=by
 rcases AO hx hn with ⟨_,g,_⟩ | ⟨_,⟨q,hq,e⟩,_⟩
 ·omega
 ·have hr:=HR hx hn
  have:=EG (x:=x) (l:=XD x) (fun j hj=>by
   simp_all [Zt,rightB]) (NO hx).1 x.orders.length _ 0 (ZD _) q hq
  omega
theorem WN {x:Inst} {l:List Itm} :(Zn x l).orders.length=x.orders.length/\(Zn x l).types.length=x.types.length:=⟨WO _ _,Vl _ _⟩
theorem sY {x y:Inst} {k:Nat} (hl:y.orders.length=x.orders.length) (ho:(nth y.orders k).off=(nth x.orders k).off) (hw:(nth y.orders k).now=(nth x.orders k).now) (hp:(nth y.orders k).penalty=(nth x.orders k).penalty):skR y k=skR x k:=by
 grind [skR,unsF]
theorem mB {x:Inst} {l:List Itm} (hx:InstOk x) (hn:x.orders.length<=4) (hI: ∀v∈l,X5 x v=true) (h:Wv x=0):Wv (Zn x l)=0/\XX (Zn x l)<=XX x:=by
 have hy:=V4 hx hI;obtain ⟨ol,tl⟩:=WN (x:=x) (l:=l);have on: ∀i,i<x.orders.length->nth (Zn x l).orders i=VP (nth x.orders i) i l:=fun i h=>Z5 h;have tn: ∀i,i<x.types.length->nth (Zn x l).types i=W4 (nth x.types i) i l:=fun i h=>Wg h;obtain ⟨f,hf⟩:=pO hx hy tl fun k m _ he=>Pq hx hy hI he;refine tA hx hy hn (f:=f) ⟨ol,fun k hk=>by rw [on k hk];rfl,fun j hj=>(hf j hj).2,fun j hj=> ?_,fun k hk ho hp=> ?_⟩ h
 ·obtain ⟨⟨k,hk,e⟩,_⟩:=hf j hj;have hc:=hx.types.2 k hk;unfold Un at hc;have hc:=hc.1.1.1.1.1.1.2;rw [CK] at hc;rw [e,XU,tn k hk];simp only [W4];omega
 ·have hn10:(⟨10,((k:Nat):Int)⟩:Itm) ∉ l:=fun hm=>by
   grind [FF,Cz]
  have e1:(nth (Zn x l).orders k).penalty=(nth x.orders k).penalty:=by simp_all [VP]
  refine ⟨Za,?_⟩;rw [sY ol (by rw [on k hk];rfl) (by rw [on k hk];rfl) e1];omega
theorem Ft {x:Inst} {v:Itm} :Vn x [v]=if X5 x v=true then 0 else 7:=by
 cases h:X5 x v with
 | true=>rw [if_pos rfl];exact Fs.2 ⟨fun w hw=>by simp only [Z3,Y3,Wn] at hw;subst hw;exact h,Zb⟩
 | false =>
  rw [if_neg Zb]
  have e0:Wz x [v] 0=7:=by rw [Wz,show nth [v] 0=v from rfl,h];rfl
  rw [Ab (k:=0) Zb (fun j hj=>Za) (by rw [e0];decide),e0]
noncomputable def Um (x:Inst) (l:List Itm):Int:=if Vn x l≠0 then Vn x l else if Wv x≠0 then Wv x else Wv (Zn x l)
noncomputable def Qo (x:Inst) (l:List Itm):Int:=if Um x l=0 then XX x-XX (Zn x l) else 0
noncomputable def eE (x:Inst):List Itm:=(Kl x 10).filter fun v=>decide (0<XX x-XX (Zn x [v]))
theorem SB {x:Inst} (hx:InstOk x) (hn:x.orders.length<=4) (h0:Wv x=0) {v:Itm} (hv:X5 x v=true):Wv (Zn x [v])=0/\XX (Zn x [v])<=XX x :=
 mB hx hn (fun w hw=>by simp only [Z3,Y3,Wn] at hw;subst hw;exact hv) h0
set_option maxRecDepth 60000
set_option maxHeartbeats 8000000
def Zhe : Typ:= { name:= [118],count:=1,src:=0,dst:=0,cap_c:=false,cap:= [5],cls:=9,drive:=9,opn:=0,rest:=0,skills:=0,fixed:=3,perMile:=0,perTick:=0,prof:=0 }
def Zhd : Ord:= { name:= [111],load_c:=false,load:= [1],pick:=⟨-1,0,0,0⟩,drp:=⟨0,0,9,0⟩,skills:=1,penalty:=7,split:=1,last:= -1,now:= -1,off:=false }
def excX : Inst:= { net:= { places_c:=false,places:= [[97]],arcs_c:=true,arcs:= [] },types_c:=false,types:= [Zhe],orders_c:=false,orders:= [Zhd],apart_c:=true,apart:= [],before_c:=true,before:= [] }
theorem Hk : InstOk excX:=by
 refine ⟨⟨⟨⟨by decide,fun i hi=> ?_⟩,by decide⟩,fun i hi=> ?_⟩,⟨rfl,fun i hi=> ?_⟩,DX.1 (by rfl),rfl⟩
 ·match i,hi with
  | 0,_=>exact ⟨rfl,fun k hk=>Za⟩
 ·exact absurd hi (by simp [excX])
 ·have:i=0:=by simp [excX] at hi;omega
  subst this;exact ⟨⟨⟨⟨⟨⟨⟨⟨rfl,fun j hj=>Za⟩,rfl⟩,rfl,rfl⟩,rfl⟩,rfl⟩,rfl,by decide⟩,rfl,rfl⟩,rfl,rfl,rfl,rfl⟩
theorem Tz : Kl excX 10= [⟨2,0⟩,⟨3,0⟩,⟨4,0⟩,⟨7,0⟩,⟨8,0⟩,⟨9,0⟩]:=by decide+kernel
theorem PG {x:Inst} {r:Rte} (h:XS x r=0): ∀v∈r.visits,Yh (ZC x r) (nth x.orders v.order.toNat).skills=true:=fun v hv=>by
 cases hb:Yh (ZC x r) (nth x.orders v.order.toNat).skills with
 | true=>rfl
 | false =>
  exfalso;have ha:(r.visits.any fun v=> !Yh (ZC x r) (nth x.orders v.order.toNat).skills)=true:=WD.2 ⟨v,hv,by rw [hb];rfl⟩;unfold XS at h
  split at h
  ·simp at h
  ·split at h
   ·rename_i h1;exact h1 h
   ·first
    | (rw [if_pos ha] at h;simp at h)
    | simp at h
theorem Nk {y:Inst} (hy:InstOk y) (l1:y.orders.length=1) (l2:y.types.length=1) (hs:(nth y.orders 0).skills=1) (ht:(nth y.types 0).skills=0) (hf:(nth y.orders 0).off=false) (hp:0<=(nth y.orders 0).penalty):Wv y=0/\XX y=skR y 0:=by
 have hno:XD y= []:=by
  rw [List.eq_nil_iff_forall_not_mem];intro c hc;obtain ⟨k,m,g1,g2,_⟩:=E5 hy hc;have he:=Ug g2;have hr:=WA he;have hru:=Uc he
  obtain ⟨v,hv⟩: ∃v,v∈m:=by
   cases m with
   | nil=>exact absurd rfl hr.ne
   | cons v m=>exact ⟨v,Zb⟩
  have hi:=hr.inr v hv;have hab:=PG hru v hv
  have ek:k=0:=Za
  subst ek
  have ev0:v.order.toNat=0:=Za
  rw [ev0,hs] at hab;have hab:Yh (nth y.types 0) 1=true:=hab;simp only [Yh,ht,ZF,Zz,ZL] at hab;have:=hab.2 0 Za;simp at this
 have n0:nth [(-1:Int)] 0= -1:=rfl
 have hc:D6 y= [([-1],skR y 0)]:=by
  unfold D6;rw [hno,l1];simp [Q6,l1,hf,hp,n0]
 rcases AO hy Za with ⟨_,_,g⟩ | ⟨g,⟨q,hq,e⟩,_⟩
 ·rw [hc] at g;cases g
 ·rw [hc] at hq;simp only [Z3,Y3,Wn] at hq;subst hq;exact ⟨g,e⟩
theorem OX {y:Inst} (h1:y.orders.length=1) (h2:(nth y.orders 0).off=false) (h3:(nth y.orders 0).penalty=7) (h4:(nth y.orders 0).now= -1):skR y 0=117440512:=by
 unfold skR unsF;rw [h1];simp [h2,h3,h4,Yz]
theorem Fu : Wv excX=0/\XX excX=117440512:=by
 obtain ⟨h1,h2⟩:=Nk Hk rfl rfl rfl rfl rfl (by decide);exact ⟨h1,by rw [h2];exact OX rfl rfl rfl rfl⟩
theorem Rv (w:Itm) (hw:X5 excX w=true): ∀v∈ [w],X5 excX v=true:=fun v hv=>by
 simp only [Z3,Y3,Wn] at hv;subst hv;exact hw
theorem fU {v:Itm} (h:X5 excX v=true) (h4:v≠⟨4,0⟩):XX (Zn excX [v])=117440512:=by
 have hy:=V4 Hk (Rv v h);have eo:nth (Zn excX [v]).orders 0=VP Zhd (0:Nat) [v]:=Z5 (by decide);have et:nth (Zn excX [v]).types 0=W4 Zhe (0:Nat) [v]:=Wg (by decide)
 have n4:(⟨4,((0:Nat):Int)⟩:Itm) ∉ [v]:=fun hm=>by
  simp only [Z3,Y3,Wn] at hm;exact h4 hm.symm
 have n10:(⟨10,((0:Nat):Int)⟩:Itm) ∉ [v]:=fun hm=>by
  simp only [Z3,Y3,Wn] at hm;rw [<- hm] at h;exact absurd h (by decide+kernel)
 have hp:(nth (Zn excX [v]).orders 0).penalty=7:=by rw [eo];simp only [VP,if_neg n10];rfl
 obtain ⟨_,h2⟩:=Nk hy WN.1 WN.2 (by rw [eo];simp only [VP,if_neg n4];rfl) (by rw [et];rfl) (by rw [eo];rfl) (by rw [hp];decide);rw [h2];exact OX WN.1 (by rw [eo];rfl) hp (by rw [eo];rfl)
theorem MB : XX (Zn excX [⟨4,0⟩])=50331648:=by
 have hy:=V4 Hk (Rv ⟨4,0⟩ (by decide+kernel));obtain ⟨y,hY⟩: ∃y,y=Zn excX [⟨4,0⟩]:=⟨_,rfl⟩;rw [<- hY] at hy ⊢
 have l1:y.orders.length=1:=by rw [hY];rfl
 have l2:y.types.length=1:=by rw [hY];rfl
 have hpr:(YG y ⟨0,0,true,[],false,[⟨0,true⟩]⟩)=(50331648,0):=by rw [hY];kernel_rfl
 have hp:(nth y.orders 0).penalty=7/\(nth y.orders 0).off=false/\(nth y.types 0).count=1/\(nth y.orders 0).now= -1:=by rw [hY];exact ⟨Ze,Ze,Ze,Ze⟩
 have ht:(nth y.types 0).fixed=3/\(nth y.types 0).perMile=0/\(nth y.types 0).perTick=0:=by rw [hY];exact ⟨Ze,Ze,Ze⟩
 have hsk:=OX l1 hp.2.1 hp.1 hp.2.2.2;have n0:nth [(-1:Int)] 0= -1:=rfl
 -- no column is cheaper
 have hcol: ∀j,j<(XD y).length->50331648<=(nth (XD y) j).price:=fun j hj=>by
  obtain ⟨k,m,g1,g2,g3⟩:=E5 hy (Zt hj);have he:=Ug g2
  have ek:k=0:=Za
  subst ek;obtain ⟨p1,p2,p3,p4,p5⟩:=Bi hy he;rw [g3]
  show 50331648<=(YG y (Q3 ((0:Nat):Int) m)).1
  have g2:(YG y (Q3 ((0:Nat):Int) m)).2=0:=Ao g2;rw [YG,if_pos he] at g2 ⊢
  have hco:(Wa y (Q3 ((0:Nat):Int) m)).cost=3:=by
   rw [Wa,if_pos he]
   show (nth y.types 0).fixed+(nth y.types 0).perMile*_+(nth y.types 0).perTick*_=3
   rw [ht.1,ht.2.1,ht.2.2];simp
  unfold aH at p1;unfold Yz at g2 ⊢
  split at g2
  ·cases g2
  ·split at g2
   ·cases g2
   ·rename_i c1 c2;rw [if_neg c1,if_neg c2];simp only;omega
 obtain ⟨j,j1,j2,j3,j4⟩:=fJ hy (r:=⟨0,0,true,[],false,[⟨0,true⟩]⟩) (by rw [hpr]) ⟨by decide,by rw [l2];decide⟩ rfl rfl;have j3:(nth (XD y) j).set=1:=j3;have j2:(nth (XD y) j).typ=0:=j2;rw [hpr] at j4
 have hch: ∀q,q∈D6 y↔(∃i,i<(XD y).length/\Ki y (XD y) [-1] i 0=true/\q=(VJ (nth (XD y) i).set.toNat [-1] i,(nth (XD y) i).price))\/q=([-1],117440512):=fun q=>by
  unfold D6;rw [l1];simp only [Q6,l1,hp.1,hp.2.1,Nat.reduceAdd,Ay,List.replicate_one,n0];rw [if_neg Zb,if_pos (by decide),hsk];simp only [Xg,XQ,ZL,Z3,Y3,Wn,Int.zero_add];refine or_congr ⟨?_,?_⟩ Iff.rfl
  ·rintro ⟨i,h1,h2⟩
   split at h2
   ·rename_i h3;simp only [Z3,Y3,Wn] at h2;exact ⟨i,h1,h3,h2⟩
   ·simp at h2
  ·rintro ⟨i,h1,h3,rfl⟩;exact ⟨i,h1,by rw [if_pos h3];simp⟩
 have hc:Ki y (XD y) [-1] j 0=true:=by
  unfold Ki;rw [j2,j3,show ((0:Int).toNat)=0 from rfl,hp.2.2.1]
  rfl
 rcases AO hy Za with ⟨_,_,g⟩ | ⟨_,⟨q,hq,e⟩,g⟩
 ·have:=(hch ([-1],117440512)).2 (.inr rfl);rw [g] at this;simp at this
 ·have h1:=g _ ((hch _).2 (.inl ⟨j,j1,hc,rfl⟩));simp only at h1;rcases (hch q).1 hq with ⟨i,i1,_,rfl⟩ | rfl
  ·have:=hcol i i1;simp only at e;omega
  ·simp only at e;omega
theorem pW : eE excX= [⟨4,0⟩]:=by
 unfold eE;rw [Tz];have r:=fun v (h:X5 excX v=true) (h4:v≠⟨4,0⟩)=>fU h h4;have e:=Fu.2;simp only [Co,List.filter_nil,e,MB,r ⟨2,0⟩ (by decide+kernel) (by decide),r ⟨3,0⟩ (by decide+kernel) (by decide),r ⟨7,0⟩ (by decide+kernel) (by decide),r ⟨8,0⟩ (by decide+kernel) (by decide),r ⟨9,0⟩ (by decide+kernel) (by decide)]
 rfl
theorem pX : Um excX [⟨4,0⟩]=0/\Qo excX [⟨4,0⟩]=67108864:=by
 have h1:Vn excX [⟨4,0⟩]=0:=by rw [Ft,if_pos (by decide+kernel)]
 obtain ⟨h2,h3⟩:=Fu;have h4:=(SB Hk (by decide) h2 (v:=⟨4,0⟩) (by decide+kernel)).1
 have e:Um excX [⟨4,0⟩]=0:=by rw [Um,if_neg Za,if_neg Za];exact h4
 refine ⟨e,?_⟩;rw [Qo,if_pos e,h3,MB];decide
theorem Zjl (x:Inst) (hx:InstOk x) (hn:x.orders.length<=4):ACalls Tryz.prog 47 [.p (Zv x)] [] fun y H'=> ∃p c e,(c=XX x/\e=Wv x)/\y= .tup [.p (JF p),.p (.int .i64 c),.p (.int .i64 e)]/\H'= []:=by
 have hs:=JK hx;refine (mC x hx hn (by have:=hs.be;omega) (by have:=hs.ap;omega)).mono fun y H' h=> ?_
 grind
theorem vZ (x:Inst) (hx:InstOk x) (hn:x.orders.length<=4):ACalls Tryz.prog 12 [.p (Zv x)] [] fun y H'=> ∃p c e,(c=XX x/\e=Wv x)/\y= .tup [.p (JF p),.p (.int .i64 c),.p (.int .i64 e)]/\H'= []:=by
 have hs:=JK hx;refine (mD x hx hn (by have:=hs.be;omega)).mono fun y H' h=> ?_
 grind
theorem AN (x:Inst) (hx:InstOk x) (hn:x.orders.length<=4):PT 23 [.p (Zv x)] [.p (.int .i64 (XX x)),.p (.int .i64 (Wv x))]:=by
 have c1:=Zjl x hx hn;generalize Wv x=e at c1;generalize XX x=c at c1;refine Zf [] Tryz.func23 rfl ZhG ?_;simp (disch:=omega) only [Tryz.f23,go_sem,seval];refine Gy c1 fun p c' e' hR=> ?_;obtain ⟨rfl,rfl⟩:=hR;simp (disch:=omega) only [go_sem,seval];exact we
noncomputable def Ef (x:Inst) (l:List Itm):Int:=if Vn x l≠0 then Vn x l else Wv (Zn x l)
noncomputable def LC (x:Inst) (l:List Itm) (full:Int):Int:=if Ef x l=0 then full-XX (Zn x l) else 0
theorem DH (x:Inst) (hx:InstOk x) (hn:x.orders.length<=4) (l:List Itm) (c:Bool) (hl:l.length<=1048576) (full:Int) (hf:0<=full/\full<=72057594037927936):PT 24 [.p (Zv x),.p (.list c (l.map Yc)),.p (.int .i64 full)] [.p (.int .i64 (LC x l full)),.p (.int .i64 (Ef x l))]:=by
 have hs:=JK hx;have c1:=Si x hs (FJ hx) l c hl;refine Zf [] Tryz.func24 rfl ZhH ?_;simp (disch:=omega) only [Tryz.f24,go_sem,seval];refine WL c1 ?_;simp (disch:=omega) only [go_sem,seval]
 by_cases e0:Vn x l=0
 ·have hI:=(Fs.1 e0).1;have hy:=V4 hx hI
  have hyn:(Zn x l).orders.length<=4:=by rw [WN.1];exact hn
  have c2:=AN _ hy hyn;have he:=AP hy hyn;have hr:=QE hy hyn
  have v1:Km x l=Zn x l:=by rw [Km,if_pos e0]
  have v2:Ef x l=Wv (Zn x l):=by rw [Ef,if_neg Za]
  rw [LC,v1,v2,e0];generalize Zn x l=Y at c2 he hr;generalize Wv Y=e at c2 he;generalize XX Y=b at c2 hr;simp (disch:=omega) only [go_sem,seval];refine WL c2 ?_;rcases he with rfl | rfl
  ·simp (disch:=omega) only [go_sem,seval];exact we
  ·simp (disch:=omega) only [go_sem,seval];exact we
 ·have v2:Ef x l=Vn x l:=by rw [Ef,if_pos e0]
  have v3:LC x l full=0:=by rw [LC,v2,if_neg e0]
  rw [v2,v3];refine cD ?_ ?_<;>intro h1<;>simp (disch:=omega) only [Sh.out h1,go_sem,seval]
  ·exact we
  ·exact absurd (Z4.1 h1) e0
theorem LN {x:Inst} {l:List Itm} (h0:Vn x l=0) (h1:Wv x=0):Um x l=Ef x l/\Qo x l=LC x l (XX x):=by
 have e:Um x l=Ef x l:=by rw [Um,Ef,if_neg Za,if_neg Za,if_neg Za]
 exact ⟨e,by rw [Qo,LC,e]⟩
theorem Sw (x:Inst) (hx:InstOk x) (hn:x.orders.length<=4) (l:List Itm) (c:Bool) (hl:l.length<=1048576):PT 15 [.p (Zv x),.p (.list c (l.map Yc))] [.p (.int .i64 (Qo x l)),.p (.int .i64 (Um x l))]:=by
 have c1:=Si x (JK hx) (FJ hx) l c hl;have c2:=AN x hx hn;have c3:=DH x hx hn l c hl (XX x) (QE hx hn);have he:=AP hx hn;refine Zf [] Tryz.func15 rfl ZhB ?_;simp (disch:=omega) only [Tryz.f15,go_sem,seval];refine WL c1 ?_;simp (disch:=omega) only [go_sem,seval]
 by_cases e0:Vn x l=0
 ·rw [e0];simp (disch:=omega) only [go_sem,seval];refine WL c2 ?_;rcases he with h | h
  ·obtain ⟨v1,v2⟩:=LN e0 h;rw [v1,v2,h];simp (disch:=omega) only [go_sem,seval];refine WL c3 ?_;simp (disch:=omega) only [go_sem,seval];exact we
  ·have v1:Um x l=24:=by rw [Um,if_neg Za,if_pos Za,h]
   have v2:Qo x l=0:=by rw [Qo,v1];rfl
   rw [v1,v2,h];simp (disch:=omega) only [go_sem,seval];exact we
 ·have v1:Um x l=Vn x l:=by rw [Um,if_pos e0]
  have v2:Qo x l=0:=by rw [Qo,v1,if_neg e0]
  rw [v1,v2];refine cD ?_ ?_<;>intro h1<;>simp (disch:=omega) only [Sh.out h1,go_sem,seval]
  ·exact we
  ·exact absurd (Z4.1 h1) e0
theorem lX (x:Inst) (hx:InstOk x) (hn:x.orders.length<=4) (v:Itm):PT 10 [.p (Zv x),.p (Yc v)] [.p (.int .i64 (Qo x [v])),.p (.int .i64 (Um x [v]))]:=by
 have c1:=qR x (JK hx) v;have c2:=AN x hx hn;have c3:=DH x hx hn [v] false Zb (XX x) (QE hx hn);have he:=AP hx hn;have e1:=Ft (x:=x) (v:=v);refine Zf [6] Tryz.func10 rfl Zhx ?_;simp (disch:=omega) only [Tryz.f10,go_sem,seval];refine (c1).use ?_;simp (disch:=omega) only [go_sem,seval]
 cases hv:X5 x v with
 | false =>
  rw [hv] at e1
  have v1:Um x [v]=7:=by rw [Um,if_pos (by rw [e1];decide),e1];rfl
  have v2:Qo x [v]=0:=by rw [Qo,v1];rfl
  rw [v1,v2];simp (disch:=omega) only [Vd,go_sem,seval];exact we
 | true =>
  rw [hv] at e1;have e1:Vn x [v]=0:=e1;simp (disch:=omega) only [YB,go_sem,seval];refine WL c2 ?_;rcases he with h | h
  ·obtain ⟨v1,v2⟩:=LN e1 h;rw [v1,v2,h];simp (disch:=omega) only [go_sem,seval];refine YM (K9 3 ?_);simp (disch:=omega) only [go_sem,seval];refine ⟨_,_,Weak.fz (o:=2) (by rfl),?_⟩;simp (disch:=omega) only [Zq,Zm,Z8,ZZ,ZK,Zy,go_sem,seval];refine WL c3 ?_;simp (disch:=omega) only [go_sem,seval]
   try refine Zg [] _ _ _ _ ?_
   try simp (disch:=omega) only [go_sem,seval]
   exact we
  ·have v1:Um x [v]=24:=by rw [Um,if_neg Za,if_pos Za,h]
   have v2:Qo x [v]=0:=by rw [Qo,v1];rfl
   rw [v1,v2,h];simp (disch:=omega) only [go_sem,seval];exact we
theorem lA (x:Inst) (hx:InstOk x) (hn:x.orders.length<=4) (l:List Itm) (c:Bool) (hl:l.length<=1048576):PT 16 [.p (Zv x),.p (.list c (l.map Yc))] [.p (.int .i64 (Qo x l)),.p (.int .i64 (Um x l))]:=by
 have c1:=LA x (JK hx) (FJ hx) l c hl;have c2:=vZ x hx hn;have he:=AP hx hn;have hr:=QE hx hn;refine Zf [] Tryz.func16 rfl ZhC ?_;simp (disch:=omega) only [Tryz.f16,go_sem,seval];refine WL c1 ?_;simp (disch:=omega) only [go_sem,seval]
 by_cases e0:Vn x l=0
 ·have hI:=(Fs.1 e0).1;have hy:=V4 hx hI
  have hyn:(Zn x l).orders.length<=4:=by rw [WN.1];exact hn
  have c3:=vZ _ hy hyn;have he2:=AP hy hyn;have hr2:=QE hy hyn
  have v1:Km x l=Zn x l:=by rw [Km,if_pos e0]
  have v2:Um x l=if Wv x≠0 then Wv x else Wv (Zn x l):=by rw [Um,if_neg Za]
  rw [Qo,v1,v2,e0];generalize Zn x l=Y at c3 he2 hr2;generalize Wv x=e at c2 he;generalize XX x=a at c2 hr;generalize Wv Y=f at c3 he2;generalize XX Y=b at c3 hr2;simp (disch:=omega) only [go_sem,seval];refine Gy c2 fun p c' e' hR=> ?_;obtain ⟨rfl,rfl⟩:=hR;rcases he with rfl | rfl
  ·simp (disch:=omega) only [go_sem,seval];refine Gy c3 fun p c' e' hR=> ?_;obtain ⟨rfl,rfl⟩:=hR;rcases he2 with rfl | rfl
   ·simp (disch:=omega) only [go_sem,seval];exact we
   ·simp (disch:=omega) only [go_sem,seval];exact we
  ·simp (disch:=omega) only [go_sem,seval];exact we
 ·have v1:Um x l=Vn x l:=by rw [Um,if_pos e0]
  have v2:Qo x l=0:=by rw [Qo,v1,if_neg e0]
  rw [v1,v2];refine cD ?_ ?_<;>intro h1<;>simp (disch:=omega) only [Sh.out h1,go_sem,seval]
  ·exact we
  ·exact absurd (Z4.1 h1) e0
theorem Zjb (x:Inst) (hx:InstOk x) (hn:x.orders.length<=4) (v:Itm):PT 14 [.p (Zv x),.p (Yc v)] [.p (.int .i64 (Qo x [v])),.p (.int .i64 (Um x [v]))]:=by
 have c1:=lA x hx hn [v] false Zb;refine Zf [1] Tryz.func14 rfl ZhA ?_;simp (disch:=omega) only [Tryz.f14,go_sem,seval];refine YM (K9 3 ?_);simp (disch:=omega) only [go_sem,seval];refine ⟨_,_,Weak.fz (o:=2) (by rfl),?_⟩;simp (disch:=omega) only [Zq,Zm,Z8,ZZ,ZK,Zy,go_sem,seval];refine WL c1 ?_;simp (disch:=omega) only [go_sem,seval]
 try refine Zg [] _ _ _ _ ?_
 try simp (disch:=omega) only [go_sem,seval]
 exact we
theorem qA {α:Type} [Inhabited α] {p:α->Bool} {l:List α} {k:Nat} (h:k<l.length):(l.take (k+1)).filter p=(l.take k).filter p++if p (nth l k)=true then [nth l k] else []:=by
 rw [X9 h,List.filter_append,<- Zh h]
 congr 1
 rw [Co]
 split<;>simp
noncomputable def OL (x:Inst):List Itm:=if Wv x=0 then eE x else []
theorem sR {x:Inst} (hx:InstOk x) (hn:x.orders.length<=4) (h0:Wv x=0) {v:Itm} (hv:X5 x v=true):Ef x [v]=0/\LC x [v] (XX x)=XX x-XX (Zn x [v])/\Um x [v]=0/\Qo x [v]=XX x-XX (Zn x [v])/\0<=XX x-XX (Zn x [v])/\XX x-XX (Zn x [v])<=72057594037927936:=by
 have e1:Vn x [v]=0:=by rw [Ft,if_pos hv]
 obtain ⟨h1,h2⟩:=SB hx hn h0 hv
 have e2:Ef x [v]=0:=by rw [Ef,if_neg Za];exact h1
 obtain ⟨t1,t2⟩:=LN e1 h0
 have e3:LC x [v] (XX x)=XX x-XX (Zn x [v]):=by rw [LC,if_pos e2]
 have r1:=QE hx hn;have hy:=V4 hx (l:= [v]) (fun w hw=>by simp only [Z3,Y3,Wn] at hw;subst hw;exact hv);have r2:=QE hy (by rw [WN.1];exact hn);exact ⟨e2,e3,by rw [t1,e2],by rw [t2,e3],Za,Za⟩
theorem lW (x:Inst) (hx:InstOk x) (hn:x.orders.length<=4):PT 19 [.p (Zv x)] [.p (.list (decide (Wv x≠0)) ((OL x).map Yc)),.p (.int .i64 (Wv x))]:=by
 have hs:=JK hx;have hrl:=Ga hs;have c1:=AN x hx hn;have c2:=O8 x hs;have he:=AP hx hn;refine Zf [5,14] Tryz.func19 rfl ZhD ?_;simp (disch:=omega) only [Tryz.f19,go_sem,seval];refine WL c1 ?_;rcases he with h0 | h0
 ·have c3:=fun v (hv:X5 x v=true)=>DH x hx hn [v] false Zb (XX x) (QE hx hn);have hsv:=fun v (hv:X5 x v=true)=>sR hx hn h0 hv
  have hv1:OL x=eE x:=by rw [OL,if_pos h0]
  have hbl:eE x=(Kl x 10).filter fun v=>decide (0<XX x-XX (Zn x [v])):=rfl;have hhas: ∀k,k<(Kl x 10).length->X5 x (nth (Kl x 10) k)=true:=fun k hk=>Jl.1 (Zt hk);rw [hv1,hbl,h0];generalize Kl x 10=R at c2 hrl hhas;simp (disch:=omega) only [go_sem,seval];refine Zp (Weak.ofNil 6 2 (by simp (disch:=omega) only [go_sem,seval]) Zb (Weak.refl _ _ _)) ?_;refine Zg [8,14] _ _ _ _ ?_;simp (disch:=omega) only [go_sem,seval];refine (c2).use ?_;simp (disch:=omega) only [go_sem,seval];refine Z2 [8,14] [1,4,20,21] (fun q:Nat×List Itm=> [(6,.sl 1 0 q.2.length q.2.length),(22,.p (.int .i64 q.1))]) (fun q=> [Zj x,.elems 2 (q.2.map Yc)]) (fun q=>q.1<=R.length/\q.2=(R.take q.1).filter fun v=>decide (0<XX x-XX (Zn x [v]))) (fun q=>R.length-q.1) (0,[]) ⟨Zb,Zb⟩ (Weak.mk ?_) ?_
  ·simp (disch:=omega) only [Zj,go_sem,seval]
  ·rintro ⟨k,m⟩ ⟨hk,hm⟩;simp only at hk hm
   have hml:m.length<=k:=by
    have h1:=List.length_filter_le (fun v=>decide (0<XX x-XX (Zn x [v]))) (R.take k);rw [<- hm,Xr] at h1;omega
   simp (disch:=omega) only [Zj,go_sem,seval];refine cD ?_ ?_<;>intro h1<;>simp (disch:=omega) only [Sh.out h1,go_sem,seval]
   ·have hk2:k<R.length:=Za
    have hsu:=qA (p:=fun v=>decide (0<XX x-XX (Zn x [v]))) hk2;have hv:=hhas k hk2;have d1:=c3 _ hv;obtain ⟨e2,e3,_,_,e6,e7⟩:=hsv _ hv;rw [e2,e3] at d1;refine YM (K9 3 ?_);simp (disch:=omega) only [Zj,go_sem,seval];refine ⟨_,_,Weak.fz (o:=3) (by rfl),?_⟩;simp (disch:=omega) only [Zq,Zm,Z8,ZZ,ZK,Zy,go_sem,seval];refine WL d1 ?_;simp (disch:=omega) only [go_sem,seval];refine Zg [] _ _ _ _ ?_;simp (disch:=omega) only [go_sem,seval];refine cD ?_ ?_<;>intro h2<;>simp (disch:=omega) only [Sh.out h2,go_sem,seval]
    ·exact ⟨(k+1,m++ [nth R k]),⟨by simp only;omega,by simp only [hsu,hm];rw [if_pos (by simpa using h2)]⟩,by simp only;omega,Weak.mk (by simp (disch:=omega) only [Zj,go_sem,seval])⟩
    ·exact ⟨(k+1,m),⟨by simp only;omega,by simp only [hsu,hm];rw [if_neg (by simpa using h2),Wl]⟩,by simp only;omega,Weak.mk (by simp (disch:=omega) only [Zj,go_sem,seval])⟩
   ·have hkl:k=R.length:=Za
    subst hkl;rw [YT] at hm;rw [<- hm];refine Zp (Weak.fz (o:=1) (by rfl)) ?_;refine Zg [] _ _ _ _ ?_;simp (disch:=omega) only [Zq,Zm,Z8,ZZ,Zj,go_sem,seval];exact we
 ·have hv1:OL x= []:=by rw [OL,if_neg Za]
  rw [hv1,h0];simp (disch:=omega) only [go_sem,seval];exact we
theorem pZ (x:Inst) (hw:x.wf 1048576):ACalls Tryz.prog 7 [.p (Zv x)] [] fun y H'=> ∃b:Bool,(b=true↔x.orders.length<=2/\x.types.length<=2/\x.apart.length+x.before.length<=4/\InstOk x)/\y= .p (.bool b)/\H'= []:=by
 have w3:=hw.2.1;have w4:=hw.2.2.2.1;have w5:=hw.2.2.2.2.2.1;have w6:=hw.2.2.2.2.2.2.2.1;refine ACalls.pureE (YO Tryz.func7 rfl Zm2 (Zg [] _ _ _ _ ?_));simp (disch:=omega) only [Tryz.f7,go_sem,seval];refine gT ?_ ?_<;>intro h<;>simp (disch:=omega) only [Sh.out h,go_sem,seval]
 ·refine gT ?_ ?_<;>intro h2<;>simp (disch:=omega) only [Sh.out h2,go_sem,seval]
  ·refine gT ?_ ?_<;>intro h3<;>simp (disch:=omega) only [Sh.out h3,go_sem,seval]
   ·refine ((yI x hw).frozenE).useV fun m hm=> ?_;simp (disch:=omega) only [go_sem,seval];refine ⟨decide (m.length=0),?_,Zb⟩;have:=hm.emp;rw [Zs,List.length_eq_zero_iff,this]
    constructor
    ·intro h2;exact ⟨Za,Za,Za,h2⟩
    ·intro h2;exact h2.2.2.2
   ·exact ⟨false,by simp;omega,rfl⟩
  ·exact ⟨false,by simp;omega,rfl⟩
 ·exact ⟨false,by simp;omega,rfl⟩
theorem C8 : PC 9 [] (.bool true):=by
 have c1:=lX excX Hk (by decide) ⟨4,0⟩;have c2:=lW excX Hk (by decide);obtain ⟨e1,e2⟩:=pX;obtain ⟨e3,_⟩:=Fu;rw [e1,e2] at c1;rw [show OL excX= [⟨4,0⟩] by rw [OL,if_pos e3,pW],e3] at c2;obtain ⟨R,hR⟩: ∃R:List Itm,R= [⟨4,0⟩]:=⟨_,rfl⟩;rw [<- hR] at c2
 have r1:R.length=1:=by rw [hR];rfl
 have r2:nth R 0=⟨4,0⟩:=by rw [hR];rfl
 clear hR;refine UJ [1,2,3] Tryz.func9 rfl Zm3 ?_;simp (disch:=omega) only [Tryz.f9,go_sem,seval];refine YM (K9 3 ?_);simp (disch:=omega) only [go_sem,seval];refine ⟨_,_,Weak.fz (o:=1) (by rfl),?_⟩;simp (disch:=omega) only [Zq,Zm,Z8,ZZ,ZK,Zy,go_sem,seval];refine Zg [2,3] _ _ _ _ ?_;simp (disch:=omega) only [go_sem,seval];refine Zp (Weak.fz (o:=0) (by rfl)) ?_;refine Zp (Weak.fz (o:=2) (by rfl)) ?_;refine YM (K9 1 ?_);simp (disch:=omega) only [Zq,Zm,Z8,ZZ,ZK,Zy,go_sem,seval]
 refine ⟨_,_,Weak.fz (o:=4) (by rfl),?_⟩;simp (disch:=omega) only [Zq,Zm,Z8,ZZ,ZK,Zy,go_sem,seval];refine Zg [3] _ _ _ _ ?_;simp (disch:=omega) only [go_sem,seval];refine Zp (Weak.fz (o:=5) (by rfl)) ?_;refine Zg [] _ _ _ _ ?_;simp (disch:=omega) only [Zq,Zm,Z8,ZZ,go_sem,seval];refine WL c1 ?_;simp (disch:=omega) only [go_sem,seval];refine WL c2 ?_;simp (disch:=omega) only [r1,r2,go_sem,seval]
theorem GY (x:Inst) (hw:x.wf 1048576) (v:Itm) (l:List Itm) (c:Bool) (hl:l.length<=1048576):PC 4 [.p (Zv x),.p (Yc v),.p (.list c (l.map Yc))] (.bool true):=by
 refine UJ [7] Tryz.func4 rfl Zm1 ?_;simp (disch:=omega) only [Tryz.f4,go_sem,seval];refine (pZ x hw).useV fun b hb=> ?_;simp (disch:=omega) only [go_sem,seval];refine gF ?_ ?_<;>intro h<;>simp (disch:=omega) only [Sh.out h,go_sem,seval]
 ·refine (C8).use ?_;simp (disch:=omega) only [go_sem,seval]
 ·obtain ⟨hn,_,_,hx⟩:=hb.1 (by simpa using h)
  have hn4:x.orders.length<=4:=Za
  refine cD ?_ ?_<;>intro h2<;>simp (disch:=omega) only [Sh.out h2,go_sem,seval]
  ·refine (C8).use ?_;simp (disch:=omega) only [go_sem,seval]
  ·have c1:=lX x hx hn4 v;have c2:=Zjb x hx hn4 v;have c3:=Sw x hx hn4 l c hl;have c4:=lA x hx hn4 l c hl;have c5:=Sw x hx hn4 [v] false Zb;generalize Qo x [v]=C1 at c1 c2 c5;generalize Um x [v]=E1 at c1 c2 c5;generalize Qo x l=C2 at c3 c4;generalize Um x l=E2 at c3 c4;refine WL c1 ?_;simp (disch:=omega) only [go_sem,seval];refine WL c2 ?_;simp (disch:=omega) only [go_sem,seval];refine WL c3 ?_;simp (disch:=omega) only [go_sem,seval];refine WL c4 ?_;simp (disch:=omega) only [go_sem,seval];refine YM (K9 3 ?_);simp (disch:=omega) only [go_sem,seval]
   refine ⟨_,_,Weak.fz (o:=2) (by rfl),?_⟩;simp (disch:=omega) only [Zq,Zm,Z8,ZZ,ZK,Zy,go_sem,seval];refine WL c5 ?_;simp (disch:=omega) only [go_sem,seval];refine Zg [] _ _ _ _ ?_;simp (disch:=omega) only [eq_self,Vz,go_sem,seval];refine (C8).use ?_;simp (disch:=omega) only [go_sem,seval]
   try simp
end Go.Proofs.YtenjikkmmibffaaGreatDoor.K
