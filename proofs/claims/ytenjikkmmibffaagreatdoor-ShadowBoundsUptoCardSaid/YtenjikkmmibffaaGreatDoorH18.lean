/- Declarations that the closing texts need, part 18: joined by tools/slim.py. -/
import Derived.Test.YtenjikkmmibffaaGreatDoorH17
import Derived.Shelf.Slices.In.SortNone
import Derived.Shelf.Sort.Plain
set_option linter.unusedVariables false
set_option linter.unusedSimpArgs false
namespace Go.Proofs.YtenjikkmmibffaaGreatDoor.K
open Go Go.AM Go.Proofs
set_option maxRecDepth 8000
theorem FJ {x:Inst} (hx:InstOk x) {c:Col} (h:c∈Xh x): ∃(k:Nat) (m:List Vis),k<x.types.length/\GB x k m=true/\c=YX x k (Xo m) m:=by
 obtain ⟨k,S,h1,h2,h3,h4,rfl⟩:=Cg.1 h;have hf:=Xz hx
 have hopn:0<=(nth x.types ((k:Nat):Int).toNat).opn:=by
  simp_all [WU]
 unfold V0 at h4 ⊢
 split at h4
 ·rename_i hc;rw [if_pos hc];have hS:S / pw x.orders.length=0:=QT h3;have ha:Alw x S:=(QN (by have:=hf.len;omega) hS hf.val).1 hc.1;rw [PN hx Za hS ha hopn] at hc ⊢;rcases El _ _ hc.2 with ⟨e,_⟩ | ⟨m,m1,m2,m3⟩
  ·cases e
  ·have m3:(Cq x (k:Int) S (WH,false)).1=_:=m3;simp only [DA,ZE,Zs] at m2;have hr:RightV x m:=YM (r:=Jr (k:Int) m) (Ux m2.2.2);have e:=m2.1;rw [hr.ord hf] at e
   grind
 ·simp at h4
theorem uY {α β:Type} [Inhabited α] [Inhabited β] {f:α->β} {l:List α} {i:Nat} (h:i<l.length):nth (l.map f) i=f (nth l i):=by
 grind [Zh]
set_option maxHeartbeats 2000000
def Th (f:Nat->Nat) (z:Int):Int:=if 0<=z then (f z.toNat:Nat) else z
theorem Ti {f:Nat->Nat} {z:Int} :0<=Th f z↔0<=z:=by grind [Th]
theorem DX {f:Nat->Nat} {a:List Int} {i:Nat} (h:i<a.length):nth (a.map (Th f)) i=Th f (nth a i):=uY h
structure Eas (x y:Inst) (l m:List Col) (f:Nat->Nat):Prop where
 len:y.orders.length=x.orders.length
 off: ∀k,k<x.orders.length->(nth y.orders k).off=(nth x.orders k).off
 col: ∀j,j<l.length->f j<m.length/\(nth m (f j)).typ=(nth l j).typ/\(nth m (f j)).set=(nth l j).set/\(nth m (f j)).price<=(nth l j).price
 cnt: ∀j,j<l.length->(nth x.types (nth l j).typ.toNat).count<=(nth y.types (nth l j).typ.toNat).count
 skp: ∀k,k<x.orders.length->(nth x.orders k).off=false->0<=(nth x.orders k).penalty->0<=(nth y.orders k).penalty/\skR y k<=skR x k
section
variable {x y : Inst} {l m : List Col} {f : Nat -> Nat} (h : Eas x y l m f)
include h
theorem SE {a:List Int} (ha: ∀i,i<a.length->nth a i<l.length) {T:Int} : ∀n,n<=a.length->usdI m (a.map (Th f)) T n<=usdI l a T n
 | 0,_=>Zw _
 | n+1,hn=>by
  have ih:=SE ha (T:=T) n Za;rw [usdI,usdI]
  have hp:KO m (a.map (Th f)) T n=true->KO l a T n=true:=by
   unfold KO;rw [DX (show n<a.length by omega)];simp only [ZE,Zs];rintro ⟨h1,h2,h3⟩;have h0:=Ti.1 h1;have hj:=h.col (nth a n).toNat (by grind)
   have e:(Th f (nth a n)).toNat=f (nth a n).toNat:=by simp_all [Th]
   grind [CB,DX]
  grind
theorem tI {a:List Int} {j:Nat} (hj:j<l.length):(VC (nth l j).set.toNat a j).map (Th f)=VC (nth m (f j)).set.toNat (a.map (Th f)) (f j:Nat):=by
 refine Jo (by simp [VC]) fun i h1 h2=> ?_
 have hi:i<a.length:=by grind [VC]
 rw [<- Zh h1,<- Zh h2,DX (by grind),Xl hi,Xl (by grind),(h.col j hj).2.2.1,DX hi]
 split
 ·rfl
 ·rfl
theorem tH {a:List Int} {j k:Nat} (ha: ∀i,i<a.length->nth a i<l.length) (hj:j<l.length) (hc:JA x l a j k=true):JA y m (a.map (Th f)) (f j) k=true:=by
 obtain ⟨c1,c2,c3,_⟩:=h.col j hj;unfold JA at hc ⊢;simp only [ZE,Zs,Q1] at hc ⊢;obtain ⟨h1,h2,h3⟩:=hc;rw [c2,c3,Z2];refine ⟨h1,?_,fun i hi hb=> ?_⟩
 ·have u:=SE h ha (T:=(nth l j).typ) a.length (Zw _);have:=h.cnt j hj;omega
 simp_all [DX,Th,if_neg]
theorem E5 : ∀(d:Nat) (a:List Int) (p p':Int),d<=x.orders.length->a.length=x.orders.length->(∀i,i<a.length->nth a i<l.length)->p'<=p-> ∀q∈QI x l d a p,∃q'∈QI y m d (a.map (Th f)) p',q'.2<=q.2
 | 0,a,p,p',_,_,_,hp,q,hq=>by
  simp_all [QI]
 | d+1,a,p,p',hd,hl,ha,hp,q,hq=>by
  have hk:x.orders.length-(d+1)<x.orders.length:=Za
  rw [QI] at hq;rw [QI,h.len,h.off _ hk,DX Za];simp only [Ti]
  by_cases c:(nth x.orders (x.orders.length-(d+1))).off=true\/0<=nth a (x.orders.length-(d+1))
  ·rw [if_pos c] at hq ⊢;exact E5 d a p p' Za hl ha hp q hq
  ·rw [if_neg c] at hq ⊢;rcases Xj.1 hq with hq | hq
   ·obtain ⟨j,hj,hq⟩:=XS.1 hq;have hj:=Zz.1 hj
    split at hq
    ·rename_i hc;obtain ⟨c1,c2,c3,c4⟩:=h.col j hj
     obtain ⟨q',h1,h2⟩:=E5 d (VC (nth l j).set.toNat a j) (p+(nth l j).price) (p'+(nth m (f j)).price) Za (by rw [VX];exact hl) (fun i hi=>by
      grind [VX,Xl]) Za q hq
     rw [tI h hj] at h1;refine ⟨q',List.mem_append_left _ (XS.2 ⟨f j,Zz.2 c1,?_⟩),h2⟩;rw [if_pos (tH h ha hj hc)];exact h1
    ·simp at hq
   ·split at hq
    ·rename_i hc;obtain ⟨s1,s2⟩:=h.skp _ hk (by grind) hc;obtain ⟨q',h1,h2⟩:=E5 d a (p+skR x (x.orders.length-(d+1))) (p'+skR y (x.orders.length-(d+1))) Za hl ha Za q hq
     grind
    ·simp at hq
end
theorem IX {l:List Col} : ∀(L:List (List Int×Int)) (b:Chc),(b.found=true->(L.foldl (YV l) b).found=true/\(L.foldl (YV l) b).price<=b.price)/\(∀q∈L,(L.foldl (YV l) b).found=true/\(L.foldl (YV l) b).price<=q.2)/\((L.foldl (YV l) b).found=true->L.foldl (YV l) b=b\/ ∃q∈L,(L.foldl (YV l) b).price=q.2)
 | [],b=>⟨fun h=>⟨h,Int.le_refl _⟩,fun q hq=>by simp at hq,fun _=> .inl rfl⟩
 | q::L,b=>by
  rw [XO];obtain ⟨i1,i2,i3⟩:=IX (l:=l) L (YV l b q)
  have hf:(YV l b q).found=true/\(YV l b q).price<=q.2/\(b.found=true->(YV l b q).price<=b.price)/\(YV l b q=b\/(YV l b q).price=q.2):=by
   unfold YV
   grind
  obtain ⟨f1,f2,f3,f4⟩:=hf;obtain ⟨g1,g2⟩:=i1 f1;refine ⟨fun hb=>⟨g1,AW g2 (f3 hb)⟩,fun q' hq=> ?_,fun hfo=> ?_⟩
  ·grind
  grind
noncomputable def EK (x:Inst):List (List Int×Int):=QI x (Xh x) x.orders.length (List.replicate x.orders.length (-1)) 0
theorem Bb {x:Inst} (hx:InstOk x) (hn:x.orders.length<=4):(WS x=24/\X1 x=0/\EK x= [])\/(WS x=0/\(∃q∈EK x,X1 x=q.2)/\ ∀q∈EK x,X1 x<=q.2):=by
 obtain ⟨hl,_⟩:=Ax hn (RW hx);have hr:=D8 hx hn;obtain ⟨u1,u2,u3⟩:=IX (l:=Xh x) (EK x) zCh;have ea:EH x (Xh x)=(EK x).foldl (YV (Xh x)) zCh:=rfl;rw [<- ea] at u1 u2 u3;obtain ⟨b,hb,h1,h2⟩:=Fx x;rcases hb with ⟨k1,_⟩ | ⟨_,⟨c,kc,k2⟩,_⟩ | ⟨_,_,k3⟩
 ·omega
 ·grind
 ·rcases k3 with ⟨k4,rfl,k5⟩ | ⟨k4,rfl,k5⟩
  ·refine .inl ⟨k5,(h1 Za).2,?_⟩
   cases hc:EK x with
   | nil=>rfl
   | cons q L =>
    grind
  ·have e:=(h2 k5).1;have e:X1 x=(EH x (Xh x)).price:=e;refine .inr ⟨k5,?_,fun q hq=>by grind⟩;rcases u3 k4 with g | ⟨q,hq,g⟩
   ·rw [g] at k4;cases k4
   grind
theorem wV {x y:Inst} {f:Nat->Nat} (hx:InstOk x) (hy:InstOk y) (hn:x.orders.length<=4) (h:Eas x y (Xh x) (Xh y) f) (h0:WS x=0):WS y=0/\X1 y<=X1 x:=by
 rcases Bb hx hn with ⟨g,_⟩ | ⟨_,⟨q,hq,e⟩,_⟩
 ·omega
 ·obtain ⟨q',h1,h2⟩:=E5 h x.orders.length (List.replicate x.orders.length (-1)) 0 0 (Zw _) Zb (fun i hi=>by
   grind [Fl]) (Int.le_refl _) q hq
  have em:(List.replicate x.orders.length (-1:Int)).map (Th f)=List.replicate y.orders.length (-1):=by
   rw [AO,h.len];rfl
  rw [em] at h1
  have h1:q'∈EK y:=by simp_all [EK]
  rcases Bb hy (by simp_all) with ⟨_,_,g⟩ | ⟨g,_,g2⟩
  ·grind
  grind
theorem MC {x:Inst} (hx:InstOk x) (hn:x.orders.length<=4):WS x=0\/WS x=24:=by
 grind [Bb]
theorem tA {x y:Inst} (hx:InstOk x) (hy:InstOk y) (ht:y.types.length=x.types.length) (hp: ∀(k:Nat) (m:List Vis),k<x.types.length->(Ye x (Jr k m)).2=0->(Ye y (Jr k m)).2=0/\(Ye y (Jr k m)).1<=(Ye x (Jr k m)).1) :
  ∃f:Nat->Nat,∀j,j<(Xh x).length->(∃k:Nat,k<x.types.length/\(nth (Xh x) j).typ=(k:Int))/\f j<(Xh y).length/\(nth (Xh y) (f j)).typ=(nth (Xh x) j).typ/\(nth (Xh y) (f j)).set=(nth (Xh x) j).set/\(nth (Xh y) (f j)).price<=(nth (Xh x) j).price:=by
 have H: ∀j,j<(Xh x).length-> ∃i,(∃k:Nat,k<x.types.length/\(nth (Xh x) j).typ=(k:Int))/\i<(Xh y).length/\(nth (Xh y) i).typ=(nth (Xh x) j).typ/\(nth (Xh y) i).set=(nth (Xh x) j).set/\(nth (Xh y) i).price<=(nth (Xh x) j).price:=fun j hj=>by
  obtain ⟨k,m,h1,h2,h3⟩:=FJ hx (Zt hj);have h4:(Ye x (Jr (k:Int) m)).2=0:=AQ h2;obtain ⟨h5,h6⟩:=hp k m h1 h4;obtain ⟨i,i1,i2,i3,i4⟩:=PW hy h5 ⟨by show (0:Int)<=(k:Int);omega,by show (k:Int)<_;omega⟩ rfl rfl;rw [h3];exact ⟨i,⟨k,h1,rfl⟩,i1,i2,i3,AW i4 h6⟩
 classical
 exact ⟨fun j=>if g:j<(Xh x).length then Classical.choose (H j g) else 0,fun j g=>by
  grind⟩
theorem N2 {x:Inst} {l:List Col} (h: ∀k,k<x.orders.length->(nth x.orders k).off=false->0<=(nth x.orders k).penalty): ∀(d:Nat) (a:List Int) (p:Int),d<=x.orders.length->QI x l d a p≠ []
 | 0,a,p,_=>by simp [QI]
 | d+1,a,p,hd=>by
  rw [QI]
  split
  ·exact N2 h d a p Za
  ·rename_i c;have:=h (x.orders.length-(d+1)) Za (by grind);rw [if_pos this];intro e;exact N2 h d a _ Za (Ue.1 e).2
theorem Fj {x:Inst} {l:List Col} (hl: ∀j,j<l.length->0<=(nth l j).price/\(nth l j).price<=18014398509481984) (hs: ∀k,k<x.orders.length->(nth x.orders k).off=false->0<=(nth x.orders k).penalty->0<=skR x k/\skR x k<=18014398509481984) :
  ∀(d:Nat) (a:List Int) (p:Int),d<=x.orders.length-> ∀q∈QI x l d a p,p<=q.2/\q.2<=p+(d:Nat)*18014398509481984
 | 0,a,p,_,q,hq=>by
  simp_all [QI]
 | d+1,a,p,hd,q,hq=>by
  have hk:x.orders.length-(d+1)<x.orders.length:=Za
  rw [QI] at hq
  split at hq
  ·have:=Fj hl hs d a p Za q hq;omega
  ·rename_i c;rcases Xj.1 hq with hq | hq
   ·obtain ⟨j,hj,hq⟩:=XS.1 hq
    split at hq
    ·have h1:=hl j (Zz.1 hj);have:=Fj hl hs d _ _ Za q hq;omega
    ·simp at hq
   ·split at hq
    ·rename_i hc;have h1:=hs _ hk (by grind) hc;have:=Fj hl hs d _ _ Za q hq;omega
    ·simp at hq
theorem Kt {x:Inst} (hx:InstOk x) (hn:x.orders.length<=4):0<=X1 x/\X1 x<=72057594037927936:=by
 rcases Bb hx hn with ⟨_,g,_⟩ | ⟨_,⟨q,hq,e⟩,_⟩
 ·omega
 ·have hr:=D8 hx hn
  have:=Fj (x:=x) (l:=Xh x) (fun j hj=>by
   simp_all [Zt,rightB]) (OR hx).1 x.orders.length _ 0 (Zw _) q hq
  omega
theorem WW {x:Inst} {l:List Itm} :(Zm x l).orders.length=x.orders.length/\(Zm x l).types.length=x.types.length:=⟨WZ _ _,VA _ _⟩
theorem wT {x y:Inst} {k:Nat} (hl:y.orders.length=x.orders.length) (ho:(nth y.orders k).off=(nth x.orders k).off) (hw:(nth y.orders k).now=(nth x.orders k).now) (hp:(nth y.orders k).penalty=(nth x.orders k).penalty):skR y k=skR x k:=by
 grind [skR,unsF]
theorem pQ {x:Inst} {l:List Itm} (hx:InstOk x) (hn:x.orders.length<=4) (hI: ∀v∈l,X9 x v=true) (h:WS x=0):WS (Zm x l)=0/\X1 (Zm x l)<=X1 x:=by
 have hy:=Ul hx hI;obtain ⟨ol,tl⟩:=WW (x:=x) (l:=l);have on: ∀i,i<x.orders.length->nth (Zm x l).orders i=V3 (nth x.orders i) i l:=fun i h=>Z8 h;have tn: ∀i,i<x.types.length->nth (Zm x l).types i=Vh (nth x.types i) i l:=fun i h=>Wt h;obtain ⟨f,hf⟩:=tA hx hy tl fun k m _ he=>Rw hx hy hI he;refine wV hx hy hn (f:=f) ⟨ol,fun k hk=>by rw [on k hk];rfl,fun j hj=>(hf j hj).2,fun j hj=> ?_,fun k hk ho hp=> ?_⟩ h
 ·obtain ⟨⟨k,hk,e⟩,_⟩:=hf j hj;have hc:=hx.types.2 k hk;unfold UD at hc;have hc:=hc.1.1.1.1.1.1.2;rw [Dh] at hc;rw [e,XY,tn k hk];simp only [Vh];omega
 ·have hn10:(⟨10,((k:Nat):Int)⟩:Itm) ∉ l:=fun hm=>by
   grind [Gi,C5]
  have e1:(nth (Zm x l).orders k).penalty=(nth x.orders k).penalty:=by simp_all [V3]
  refine ⟨Za,?_⟩;rw [wT ol (by rw [on k hk];rfl) (by rw [on k hk];rfl) e1];omega
theorem F6 {x:Inst} {v:Itm} :Ub x [v]=if X9 x v=true then 0 else 7:=by
 cases h:X9 x v with
 | true=>rw [if_pos rfl];exact F5.2 ⟨fun w hw=>by simp only [Z4,We,Wz] at hw;subst hw;exact h,Zb⟩
 | false =>
  rw [if_neg Zb]
  have e0:WJ x [v] 0=7:=by rw [WJ,show nth [v] 0=v from rfl,h];rfl
  rw [AB (k:=0) Zb (fun j hj=>Za) (by rw [e0];decide),e0]
noncomputable def Bn (x:Inst) (l:List Itm):Int:=if Ub x l≠0 then Ub x l else if WS x≠0 then WS x else WS (Zm x l)
noncomputable def E1 (x:Inst) (l:List Itm):Int:=if Bn x l=0 then X1 x-X1 (Zm x l) else 0
noncomputable def iP (x:Inst):List Itm:=(KJ x 10).filter fun v=>decide (0<X1 x-X1 (Zm x [v]))
theorem TO {x:Inst} (hx:InstOk x) (hn:x.orders.length<=4) (h0:WS x=0) {v:Itm} (hv:X9 x v=true):WS (Zm x [v])=0/\X1 (Zm x [v])<=X1 x :=
 pQ hx hn (fun w hw=>by simp only [Z4,We,Wz] at hw;subst hw;exact hv) h0
set_option maxRecDepth 60000
set_option maxHeartbeats 8000000
def ZiX : Typ:= { name:= [118],count:=1,src:=0,dst:=0,cap_c:=false,cap:= [5],cls:=9,drive:=9,opn:=0,rest:=0,skills:=0,fixed:=3,perMile:=0,perTick:=0,prof:=0 }
def ZiW : Ord:= { name:= [111],load_c:=false,load:= [1],pick:=⟨-1,0,0,0⟩,drp:=⟨0,0,9,0⟩,skills:=1,penalty:=7,split:=1,last:= -1,now:= -1,off:=false }
def excX : Inst:= { net:= { places_c:=false,places:= [[97]],arcs_c:=true,arcs:= [] },types_c:=false,types:= [ZiX],orders_c:=false,orders:= [ZiW],apart_c:=true,apart:= [],before_c:=true,before:= [] }
theorem H5 : InstOk excX:=by
 refine ⟨⟨⟨⟨by decide,fun i hi=> ?_⟩,by decide⟩,fun i hi=> ?_⟩,⟨rfl,fun i hi=> ?_⟩,EA.1 (by rfl),rfl⟩
 ·match i,hi with
  | 0,_=>exact ⟨rfl,fun k hk=>Za⟩
 ·exact absurd hi (by simp [excX])
 ·have:i=0:=by simp [excX] at hi;omega
  subst this;exact ⟨⟨⟨⟨⟨⟨⟨⟨rfl,fun j hj=>Za⟩,rfl⟩,rfl,rfl⟩,rfl⟩,rfl⟩,rfl,by decide⟩,rfl,rfl⟩,rfl,rfl,rfl,rfl⟩
theorem bK : KJ excX 10= [⟨2,0⟩,⟨3,0⟩,⟨4,0⟩,⟨7,0⟩,⟨8,0⟩,⟨9,0⟩]:=by decide+kernel
theorem RL {x:Inst} {r:Rte} (h:X2 x r=0): ∀v∈r.visits,Yq (ZF x r) (nth x.orders v.order.toNat).skills=true:=fun v hv=>by
 cases hb:Yq (ZF x r) (nth x.orders v.order.toNat).skills with
 | true=>rfl
 | false =>
  exfalso;have ha:(r.visits.any fun v=> !Yq (ZF x r) (nth x.orders v.order.toNat).skills)=true:=Wx.2 ⟨v,hv,by rw [hb];rfl⟩;unfold X2 at h
  split at h
  ·simp at h
  ·split at h
   ·rename_i h1;exact h1 h
   ·first
    | (rw [if_pos ha] at h;simp at h)
    | simp at h
theorem Oj {y:Inst} (hy:InstOk y) (l1:y.orders.length=1) (l2:y.types.length=1) (hs:(nth y.orders 0).skills=1) (ht:(nth y.types 0).skills=0) (hf:(nth y.orders 0).off=false) (hp:0<=(nth y.orders 0).penalty):WS y=0/\X1 y=skR y 0:=by
 have hno:Xh y= []:=by
  rw [List.eq_nil_iff_forall_not_mem];intro c hc;obtain ⟨k,m,g1,g2,_⟩:=FJ hy hc;have he:=Ux g2;have hr:=YM he;have hru:=VI he
  obtain ⟨v,hv⟩: ∃v,v∈m:=by
   cases m with
   | nil=>exact absurd rfl hr.ne
   | cons v m=>exact ⟨v,Zb⟩
  have hi:=hr.inr v hv;have hab:=RL hru v hv
  have ek:k=0:=Za
  subst ek
  have ev0:v.order.toNat=0:=Za
  rw [ev0,hs] at hab;have hab:Yq (nth y.types 0) 1=true:=hab;simp only [Yq,ht,ZE,Zx,Zz] at hab;have:=hab.2 0 Za;simp at this
 have n0:nth [(-1:Int)] 0= -1:=rfl
 have hc:EK y= [([-1],skR y 0)]:=by
  unfold EK;rw [hno,l1];simp [QI,l1,hf,hp,n0]
 rcases Bb hy Za with ⟨_,_,g⟩ | ⟨g,⟨q,hq,e⟩,_⟩
 ·rw [hc] at g;cases g
 ·rw [hc] at hq;simp only [Z4,We,Wz] at hq;subst hq;exact ⟨g,e⟩
theorem P2 {y:Inst} (h1:y.orders.length=1) (h2:(nth y.orders 0).off=false) (h3:(nth y.orders 0).penalty=7) (h4:(nth y.orders 0).now= -1):skR y 0=117440512:=by
 unfold skR unsF;rw [h1];simp [h2,h3,h4,Xm]
theorem F7 : WS excX=0/\X1 excX=117440512:=by
 obtain ⟨h1,h2⟩:=Oj H5 rfl rfl rfl rfl rfl (by decide);exact ⟨h1,by rw [h2];exact P2 rfl rfl rfl rfl⟩
theorem SI (w:Itm) (hw:X9 excX w=true): ∀v∈ [w],X9 excX v=true:=fun v hv=>by
 simp only [Z4,We,Wz] at hv;subst hv;exact hw
theorem kC {v:Itm} (h:X9 excX v=true) (h4:v≠⟨4,0⟩):X1 (Zm excX [v])=117440512:=by
 have hy:=Ul H5 (SI v h);have eo:nth (Zm excX [v]).orders 0=V3 ZiW (0:Nat) [v]:=Z8 (by decide);have et:nth (Zm excX [v]).types 0=Vh ZiX (0:Nat) [v]:=Wt (by decide)
 have n4:(⟨4,((0:Nat):Int)⟩:Itm) ∉ [v]:=fun hm=>by
  simp only [Z4,We,Wz] at hm;exact h4 hm.symm
 have n10:(⟨10,((0:Nat):Int)⟩:Itm) ∉ [v]:=fun hm=>by
  simp only [Z4,We,Wz] at hm;rw [<- hm] at h;exact absurd h (by decide+kernel)
 have hp:(nth (Zm excX [v]).orders 0).penalty=7:=by rw [eo];simp only [V3,if_neg n10];rfl
 obtain ⟨_,h2⟩:=Oj hy WW.1 WW.2 (by rw [eo];simp only [V3,if_neg n4];rfl) (by rw [et];rfl) (by rw [eo];rfl) (by rw [hp];decide);rw [h2];exact P2 WW.1 (by rw [eo];rfl) hp (by rw [eo];rfl)
theorem NA : X1 (Zm excX [⟨4,0⟩])=50331648:=by
 have hy:=Ul H5 (SI ⟨4,0⟩ (by decide+kernel));obtain ⟨y,hY⟩: ∃y,y=Zm excX [⟨4,0⟩]:=⟨_,rfl⟩;rw [<- hY] at hy ⊢
 have l1:y.orders.length=1:=by rw [hY];rfl
 have l2:y.types.length=1:=by rw [hY];rfl
 have hpr:(Ye y ⟨0,0,true,[],false,[⟨0,true⟩]⟩)=(50331648,0):=by rw [hY];kernel_rfl
 have hp:(nth y.orders 0).penalty=7/\(nth y.orders 0).off=false/\(nth y.types 0).count=1/\(nth y.orders 0).now= -1:=by rw [hY];exact ⟨Zd,Zd,Zd,Zd⟩
 have ht:(nth y.types 0).fixed=3/\(nth y.types 0).perMile=0/\(nth y.types 0).perTick=0:=by rw [hY];exact ⟨Zd,Zd,Zd⟩
 have hsk:=P2 l1 hp.2.1 hp.1 hp.2.2.2;have n0:nth [(-1:Int)] 0= -1:=rfl
 -- no column is cheaper
 have hcol: ∀j,j<(Xh y).length->50331648<=(nth (Xh y) j).price:=fun j hj=>by
  obtain ⟨k,m,g1,g2,g3⟩:=FJ hy (Zt hj);have he:=Ux g2
  have ek:k=0:=Za
  subst ek;obtain ⟨p1,p2,p3,p4,p5⟩:=Qo hy he;rw [g3]
  show 50331648<=(Ye y (Jr ((0:Nat):Int) m)).1
  have g2:(Ye y (Jr ((0:Nat):Int) m)).2=0:=AQ g2;rw [Ye,if_pos he] at g2 ⊢
  have hco:(XF y (Jr ((0:Nat):Int) m)).cost=3:=by
   rw [XF,if_pos he]
   show (nth y.types 0).fixed+(nth y.types 0).perMile*_+(nth y.types 0).perTick*_=3
   rw [ht.1,ht.2.1,ht.2.2];simp
  unfold Vf at p1;unfold Xm at g2 ⊢
  split at g2
  ·cases g2
  ·split at g2
   ·cases g2
   ·rename_i c1 c2;rw [if_neg c1,if_neg c2];simp only;omega
 obtain ⟨j,j1,j2,j3,j4⟩:=PW hy (r:=⟨0,0,true,[],false,[⟨0,true⟩]⟩) (by rw [hpr]) ⟨by decide,by rw [l2];decide⟩ rfl rfl;have j3:(nth (Xh y) j).set=1:=j3;have j2:(nth (Xh y) j).typ=0:=j2;rw [hpr] at j4
 have hch: ∀q,q∈EK y↔(∃i,i<(Xh y).length/\JA y (Xh y) [-1] i 0=true/\q=(VC (nth (Xh y) i).set.toNat [-1] i,(nth (Xh y) i).price))\/q=([-1],117440512):=fun q=>by
  unfold EK;rw [l1];simp only [QI,l1,hp.1,hp.2.1,Nat.reduceAdd,Kf,List.replicate_one,n0];rw [if_neg Zb,if_pos (by decide),hsk];simp only [Xj,XS,Zz,Z4,We,Wz,Ke];refine or_congr ⟨?_,?_⟩ Iff.rfl
  ·rintro ⟨i,h1,h2⟩
   split at h2
   ·rename_i h3;simp only [Z4,We,Wz] at h2;exact ⟨i,h1,h3,h2⟩
   ·simp at h2
  ·rintro ⟨i,h1,h3,rfl⟩;exact ⟨i,h1,by rw [if_pos h3];simp⟩
 have hc:JA y (Xh y) [-1] j 0=true:=by
  unfold JA;rw [j2,j3,show ((0:Int).toNat)=0 from rfl,hp.2.2.1]
  rfl
 rcases Bb hy Za with ⟨_,_,g⟩ | ⟨_,⟨q,hq,e⟩,g⟩
 ·have:=(hch ([-1],117440512)).2 (.inr rfl);rw [g] at this;simp at this
 ·have h1:=g _ ((hch _).2 (.inl ⟨j,j1,hc,rfl⟩));simp only at h1;rcases (hch q).1 hq with ⟨i,i1,_,rfl⟩ | rfl
  ·have:=hcol i i1;simp only at e;omega
  ·simp only at e;omega
theorem tK : iP excX= [⟨4,0⟩]:=by
 unfold iP;rw [bK];have r:=fun v (h:X9 excX v=true) (h4:v≠⟨4,0⟩)=>kC h h4;have e:=F7.2;simp only [CU,List.filter_nil,e,NA,r ⟨2,0⟩ (by decide+kernel) (by decide),r ⟨3,0⟩ (by decide+kernel) (by decide),r ⟨7,0⟩ (by decide+kernel) (by decide),r ⟨8,0⟩ (by decide+kernel) (by decide),r ⟨9,0⟩ (by decide+kernel) (by decide)]
 rfl
theorem tL : Bn excX [⟨4,0⟩]=0/\E1 excX [⟨4,0⟩]=67108864:=by
 have h1:Ub excX [⟨4,0⟩]=0:=by rw [F6,if_pos (by decide+kernel)]
 obtain ⟨h2,h3⟩:=F7;have h4:=(TO H5 (by decide) h2 (v:=⟨4,0⟩) (by decide+kernel)).1
 have e:Bn excX [⟨4,0⟩]=0:=by rw [Bn,if_neg Za,if_neg Za];exact h4
 refine ⟨e,?_⟩;rw [E1,if_pos e,h3,NA];decide
theorem Zk5 (x:Inst) (hx:InstOk x) (hn:x.orders.length<=4):ACalls Tryz.prog 47 [.p (Zv x)] [] fun y H'=> ∃p c e,(c=X1 x/\e=WS x)/\y= .tup [.p (Ut p),.p (.int .i64 c),.p (.int .i64 e)]/\H'= []:=by
 have hs:=AJ hx;refine (pR x hx hn (by have:=hs.be;omega) (by have:=hs.ap;omega)).mono fun y H' h=> ?_
 grind
theorem Zk6 (x:Inst) (hx:InstOk x) (hn:x.orders.length<=4):ACalls Tryz.prog 12 [.p (Zv x)] [] fun y H'=> ∃p c e,(c=X1 x/\e=WS x)/\y= .tup [.p (Ut p),.p (.int .i64 c),.p (.int .i64 e)]/\H'= []:=by
 have hs:=AJ hx;refine (pS x hx hn (by have:=hs.be;omega)).mono fun y H' h=> ?_
 grind
theorem Eh (x:Inst) (hx:InstOk x) (hn:x.orders.length<=4):PT 23 [.p (Zv x)] [.p (.int .i64 (X1 x)),.p (.int .i64 (WS x))]:=by
 have c1:=Zk5 x hx hn;generalize WS x=e at c1;generalize X1 x=c at c1;refine Zf [] Tryz.func23 rfl Zjn ?_;simp (disch:=omega) only [Tryz.f23,go_sem,seval];refine MM c1 fun p c' e' hR=> ?_;obtain ⟨rfl,rfl⟩:=hR;simp (disch:=omega) only [go_sem,seval];exact we
noncomputable def ES (x:Inst) (l:List Itm):Int:=if Ub x l≠0 then Ub x l else WS (Zm x l)
noncomputable def My (x:Inst) (l:List Itm) (full:Int):Int:=if ES x l=0 then full-X1 (Zm x l) else 0
theorem IL (x:Inst) (hx:InstOk x) (hn:x.orders.length<=4) (l:List Itm) (c:Bool) (hl:l.length<=1048576) (full:Int) (hf:0<=full/\full<=72057594037927936):PT 24 [.p (Zv x),.p (.list c (l.map YL)),.p (.int .i64 full)] [.p (.int .i64 (My x l full)),.p (.int .i64 (ES x l))]:=by
 have hs:=AJ hx;have c1:=wH x hs (NS hx) l c hl;refine Zf [] Tryz.func24 rfl Zjo ?_;simp (disch:=omega) only [Tryz.f24,go_sem,seval];refine Vi c1 ?_;simp (disch:=omega) only [go_sem,seval]
 by_cases e0:Ub x l=0
 ·have hI:=(F5.1 e0).1;have hy:=Ul hx hI
  have hyn:(Zm x l).orders.length<=4:=by rw [WW.1];exact hn
  have c2:=Eh _ hy hyn;have he:=MC hy hyn;have hr:=Kt hy hyn
  have v1:KK x l=Zm x l:=by rw [KK,if_pos e0]
  have v2:ES x l=WS (Zm x l):=by rw [ES,if_neg Za]
  rw [My,v1,v2,e0];generalize Zm x l=Y at c2 he hr;generalize WS Y=e at c2 he;generalize X1 Y=b at c2 hr;simp (disch:=omega) only [go_sem,seval];refine Vi c2 ?_;rcases he with rfl | rfl
  ·simp (disch:=omega) only [go_sem,seval];exact we
  ·simp (disch:=omega) only [go_sem,seval];exact we
 ·have v2:ES x l=Ub x l:=by rw [ES,if_pos e0]
  have v3:My x l full=0:=by rw [My,v2,if_neg e0]
  rw [v2,v3];refine cD ?_ ?_<;>intro h1<;>simp (disch:=omega) only [Sh.out h1,go_sem,seval]
  ·exact we
  ·exact absurd (Z3.1 h1) e0
theorem TP {x:Inst} {l:List Itm} (h0:Ub x l=0) (h1:WS x=0):Bn x l=ES x l/\E1 x l=My x l (X1 x):=by
 have e:Bn x l=ES x l:=by rw [Bn,ES,if_neg Za,if_neg Za,if_neg Za]
 exact ⟨e,by rw [E1,My,e]⟩
theorem pM (x:Inst) (hx:InstOk x) (hn:x.orders.length<=4) (v:Itm):PT 10 [.p (Zv x),.p (YL v)] [.p (.int .i64 (E1 x [v])),.p (.int .i64 (Bn x [v]))]:=by
 have c1:=uK x (AJ hx) v;have c2:=Eh x hx hn;have c3:=IL x hx hn [v] false Zb (X1 x) (Kt hx hn);have he:=MC hx hn;have e1:=F6 (x:=x) (v:=v);refine Zf [6] Tryz.func10 rfl Zjg ?_;simp (disch:=omega) only [Tryz.f10,go_sem,seval];refine (c1).use ?_;simp (disch:=omega) only [go_sem,seval]
 cases hv:X9 x v with
 | false =>
  rw [hv] at e1
  have v1:Bn x [v]=7:=by rw [Bn,if_pos (by rw [e1];decide),e1];rfl
  have v2:E1 x [v]=0:=by rw [E1,v1];rfl
  rw [v1,v2];simp (disch:=omega) only [W9,go_sem,seval];exact we
 | true =>
  rw [hv] at e1;have e1:Ub x [v]=0:=e1;simp (disch:=omega) only [YB,go_sem,seval];refine Vi c2 ?_;rcases he with h | h
  ·obtain ⟨v1,v2⟩:=TP e1 h;rw [v1,v2,h];simp (disch:=omega) only [go_sem,seval];refine Wa (Co 3 ?_);simp (disch:=omega) only [go_sem,seval];refine ⟨_,_,Weak.fz (o:=2) (by rfl),?_⟩;simp (disch:=omega) only [Zr,Zn,Xa,Z1,ZO,ZD,go_sem,seval];refine Vi c3 ?_;simp (disch:=omega) only [go_sem,seval]
   try refine Zg [] _ _ _ _ ?_
   try simp (disch:=omega) only [go_sem,seval]
   exact we
  ·have v1:Bn x [v]=24:=by rw [Bn,if_neg Za,if_pos Za,h]
   have v2:E1 x [v]=0:=by rw [E1,v1];rfl
   rw [v1,v2,h];simp (disch:=omega) only [go_sem,seval];exact we
theorem tO {α:Type} [Inhabited α] {p:α->Bool} {l:List α} {k:Nat} (h:k<l.length):(l.take (k+1)).filter p=(l.take k).filter p++if p (nth l k)=true then [nth l k] else []:=by
 rw [XZ h,List.filter_append,<- Zh h]
 congr 1
 rw [CU]
 split<;>simp
noncomputable def PM (x:Inst):List Itm:=if WS x=0 then iP x else []
theorem TE {x:Inst} (hx:InstOk x) (hn:x.orders.length<=4) (h0:WS x=0) {v:Itm} (hv:X9 x v=true):ES x [v]=0/\My x [v] (X1 x)=X1 x-X1 (Zm x [v])/\Bn x [v]=0/\E1 x [v]=X1 x-X1 (Zm x [v])/\0<=X1 x-X1 (Zm x [v])/\X1 x-X1 (Zm x [v])<=72057594037927936:=by
 have e1:Ub x [v]=0:=by rw [F6,if_pos hv]
 obtain ⟨h1,h2⟩:=TO hx hn h0 hv
 have e2:ES x [v]=0:=by rw [ES,if_neg Za];exact h1
 obtain ⟨t1,t2⟩:=TP e1 h0
 have e3:My x [v] (X1 x)=X1 x-X1 (Zm x [v]):=by rw [My,if_pos e2]
 have r1:=Kt hx hn;have hy:=Ul hx (l:= [v]) (fun w hw=>by simp only [Z4,We,Wz] at hw;subst hw;exact hv);have r2:=Kt hy (by rw [WW.1];exact hn);exact ⟨e2,e3,by rw [t1,e2],by rw [t2,e3],Za,Za⟩
theorem pL (x:Inst) (hx:InstOk x) (hn:x.orders.length<=4):PT 19 [.p (Zv x)] [.p (.list (decide (WS x≠0)) ((PM x).map YL)),.p (.int .i64 (WS x))]:=by
 have hs:=AJ hx;have hrl:=GN hs;have c1:=Eh x hx hn;have c2:=Re x hs;have he:=MC hx hn;refine Zf [5,14] Tryz.func19 rfl Zjk ?_;simp (disch:=omega) only [Tryz.f19,go_sem,seval];refine Vi c1 ?_;rcases he with h0 | h0
 ·have c3:=fun v (hv:X9 x v=true)=>IL x hx hn [v] false Zb (X1 x) (Kt hx hn);have hsv:=fun v (hv:X9 x v=true)=>TE hx hn h0 hv
  have hv1:PM x=iP x:=by rw [PM,if_pos h0]
  have hbl:iP x=(KJ x 10).filter fun v=>decide (0<X1 x-X1 (Zm x [v])):=rfl;have hhas: ∀k,k<(KJ x 10).length->X9 x (nth (KJ x 10) k)=true:=fun k hk=>JK.1 (Zt hk);rw [hv1,hbl,h0];generalize KJ x 10=R at c2 hrl hhas;simp (disch:=omega) only [go_sem,seval];refine Zq (Weak.ofNil 6 2 (by simp (disch:=omega) only [go_sem,seval]) Zb (Weak.refl _ _ _)) ?_;refine Zg [8,14] _ _ _ _ ?_;simp (disch:=omega) only [go_sem,seval];refine (c2).use ?_;simp (disch:=omega) only [go_sem,seval];refine ZZ [8,14] [1,4,20,21] (fun q:Nat×List Itm=> [(6,.sl 1 0 q.2.length q.2.length),(22,.p (.int .i64 q.1))]) (fun q=> [Zi x,.elems 2 (q.2.map YL)]) (fun q=>q.1<=R.length/\q.2=(R.take q.1).filter fun v=>decide (0<X1 x-X1 (Zm x [v]))) (fun q=>R.length-q.1) (0,[]) ⟨Zb,Zb⟩ (Weak.mk ?_) ?_
  ·simp (disch:=omega) only [Zi,go_sem,seval]
  ·rintro ⟨k,m⟩ ⟨hk,hm⟩;simp only at hk hm
   have hml:m.length<=k:=by
    have h1:=List.length_filter_le (fun v=>decide (0<X1 x-X1 (Zm x [v]))) (R.take k);rw [<- hm,Xi] at h1;omega
   simp (disch:=omega) only [Zi,go_sem,seval];refine cD ?_ ?_<;>intro h1<;>simp (disch:=omega) only [Sh.out h1,go_sem,seval]
   ·have hk2:k<R.length:=Za
    have hsu:=tO (p:=fun v=>decide (0<X1 x-X1 (Zm x [v]))) hk2;have hv:=hhas k hk2;have d1:=c3 _ hv;obtain ⟨e2,e3,_,_,e6,e7⟩:=hsv _ hv;rw [e2,e3] at d1;refine Wa (Co 3 ?_);simp (disch:=omega) only [Zi,go_sem,seval];refine ⟨_,_,Weak.fz (o:=3) (by rfl),?_⟩;simp (disch:=omega) only [Zr,Zn,Xa,Z1,ZO,ZD,go_sem,seval];refine Vi d1 ?_;simp (disch:=omega) only [go_sem,seval];refine Zg [] _ _ _ _ ?_;simp (disch:=omega) only [go_sem,seval];refine cD ?_ ?_<;>intro h2<;>simp (disch:=omega) only [Sh.out h2,go_sem,seval]
    ·exact ⟨(k+1,m++ [nth R k]),⟨by simp only;omega,by simp only [hsu,hm];rw [if_pos (by simpa using h2)]⟩,by simp only;omega,Weak.mk (by simp (disch:=omega) only [Zi,go_sem,seval])⟩
    ·exact ⟨(k+1,m),⟨by simp only;omega,by simp only [hsu,hm];rw [if_neg (by simpa using h2),Wy]⟩,by simp only;omega,Weak.mk (by simp (disch:=omega) only [Zi,go_sem,seval])⟩
   ·have hkl:k=R.length:=Za
    subst hkl;rw [X5] at hm;rw [<- hm];refine Zq (Weak.fz (o:=1) (by rfl)) ?_;refine Zg [] _ _ _ _ ?_;simp (disch:=omega) only [Zr,Zn,Xa,Z1,Zi,go_sem,seval];exact we
 ·have hv1:PM x= []:=by rw [PM,if_neg Za]
  rw [hv1,h0];simp (disch:=omega) only [go_sem,seval];exact we
theorem pT {α:Type} (f:α->α->Int) (ht: ∀a b c,¬f b a<0-> ¬f c b<0-> ¬f c a<0) (hc: ∀a b,¬f b a<0\/ ¬f a b<0) (l:List α): ∃ys:List α,ys.Perm l/\ys.Pairwise fun a b=> ¬f b a<0:=by
 refine ⟨l.mergeSort (fun a b=> !decide (f b a<0)),List.mergeSort_perm _ _,?_⟩
 have:=List.pairwise_mergeSort (le:=fun a b=> !decide (f b a<0)) (fun a b c h1 h2=>by
  simp only [XM,XX] at h1 h2 ⊢
  exact ht a b c h1 h2) (fun a b=>by
  simp only [W8,XM,XX]
  exact hc a b) l
 refine this.imp fun h=> ?_;simpa using h
theorem jD (l:List Col): ∀k,k<=l.length-> ∃m out,Chp l k m out
 | 0,_=>⟨[],[],Nn l⟩
 | k+1,h=>by
  obtain ⟨m,out,hC⟩:=jD l k Za
  cases hq:mq m (kd (nth l k)) with
  | none=>exact ⟨(kd (nth l k),(out.length:Int))::m,_,Sv hC hq fun q=>by
   by_cases e:q=kd (nth l k)
   ·rw [if_pos e];simp [mq,e]
   ·rw [if_neg e];simp [mq,List.find?_cons,e]⟩
  | some v =>
   obtain ⟨i,hi,rfl,hkd⟩:=hC.at2 _ _ hq;exact ⟨m,_,Sw hC hi hkd⟩
theorem iW (l:List Col): ∃ys,Cheap l ys/\ys.length<=l.length:=by
 obtain ⟨m,out,hC⟩:=jD l l.length (Zw _);obtain ⟨ys,h1,h2⟩:=pT cfK (fun a b c h1 h2=>by simp only [BG] at *;omega) (fun a b=>by simp only [BG];omega) out;exact ⟨ys,Su hC h1 h2,by rw [h1.length_eq];exact hC.len⟩
theorem sX (x:Inst) (l:List Col): ∃p c e,I5 x l p c e:=by
 unfold I5
 by_cases h1:8192<l.length
 ·exact ⟨_,_,_,.inl ⟨h1,rfl,rfl,rfl⟩⟩
 ·by_cases h2: ∃c∈l,rightB x c=false
  ·exact ⟨_,_,_,.inr (.inl ⟨Za,h2,rfl,rfl,rfl⟩)⟩
  ·have h3: ∀c∈l,rightB x c=true:=fun c hc=>by
    cases h:rightB x c with
    | false=>exact absurd ⟨c,hc,h⟩ h2
    | true=>rfl
   obtain ⟨ys,y1,y2⟩:=iW l
   by_cases h4:HE x ys<0
   ·exact ⟨_,_,_,.inr (.inr ⟨Za,h3,ys,y1,y2,.inl ⟨h4,rfl,rfl,rfl⟩⟩)⟩
   ·obtain ⟨zs,z1,z2⟩:=pT qY (fun a b c h1 h2=>by simp only [Qk] at *;omega) (fun a b=>by simp only [Qk];omega) (Yr x.orders.length ((Yk x x.orders.length:Nat):Int) x (fstF x.orders.length ys) (skF x x.orders.length) 20 (Vu x.orders.length ((Yk x x.orders.length:Nat):Int) zSt)).1;exact ⟨_,_,_,.inr (.inr ⟨Za,h3,ys,y1,y2,.inr ⟨Za,rfl,rfl,zs,z1,z2,rfl⟩⟩)⟩
theorem Zk7 {x:Inst} (hx:InstOk x) (hn:x.orders.length<=4): ∃p,I5 x (Xh x) p (X1 x) (WS x)/\ ∀r∈p.routes,r.start=0/\r.rests= []:=by
 obtain ⟨p,c,e,h⟩:=sX x (Xh x);obtain ⟨_,hc⟩:=Ax hn (RW hx);obtain ⟨rfl,rfl,_,_,_,_,r5⟩:=Nl hx hn (fun c h=>(hc c h).1) h (Fx x);refine ⟨p,h,fun r hr=> ?_⟩;obtain ⟨d,hd,rfl⟩:=r5 r hr;obtain ⟨k,S,m,_,_,_,_,_,rfl⟩:=M0 hd;exact ⟨rfl,rfl⟩
theorem eU {x:Inst} {p:Pln} (hx:InstOk x) (hn:x.orders.length<=4) (hk:Vm x p=0) (h0: ∀r∈p.routes,r.start=0/\r.rests= []):WS x=0/\(Xm (JO x p)).2=0/\X1 x<=(Xm (JO x p)).1:=by
 obtain ⟨q,h,_⟩:=Zk7 hx hn;exact NY hx hn (RW hx) h hk h0
theorem tN (x:Inst) (hw:x.wf 1048576):ACalls Tryz.prog 7 [.p (Zv x)] [] fun y H'=> ∃b:Bool,(b=true↔x.orders.length<=2/\x.types.length<=2/\x.apart.length+x.before.length<=4/\InstOk x)/\y= .p (.bool b)/\H'= []:=by
 have w3:=hw.2.1;have w4:=hw.2.2.2.1;have w5:=hw.2.2.2.2.2.1;have w6:=hw.2.2.2.2.2.2.2.1;refine ACalls.pureE (YI Tryz.func7 rfl ZoQ (Zg [] _ _ _ _ ?_));simp (disch:=omega) only [Tryz.f7,go_sem,seval];refine gT ?_ ?_<;>intro h<;>simp (disch:=omega) only [Sh.out h,go_sem,seval]
 ·refine gT ?_ ?_<;>intro h2<;>simp (disch:=omega) only [Sh.out h2,go_sem,seval]
  ·refine gT ?_ ?_<;>intro h3<;>simp (disch:=omega) only [Sh.out h3,go_sem,seval]
   ·refine ((Za7 x hw).frozenE).useV fun m hm=> ?_;simp (disch:=omega) only [go_sem,seval];refine ⟨decide (m.length=0),?_,Zb⟩;have:=hm.emp;rw [Zs,List.length_eq_zero_iff,this]
    constructor
    ·intro h2;exact ⟨Za,Za,Za,h2⟩
    ·intro h2;exact h2.2.2.2
   ·exact ⟨false,by simp;omega,rfl⟩
  ·exact ⟨false,by simp;omega,rfl⟩
 ·exact ⟨false,by simp;omega,rfl⟩
theorem V9 : PC 9 [] (.bool true):=by
 have c1:=pM excX H5 (by decide) ⟨4,0⟩;have c2:=pL excX H5 (by decide);obtain ⟨e1,e2⟩:=tL;obtain ⟨e3,_⟩:=F7;rw [e1,e2] at c1;rw [show PM excX= [⟨4,0⟩] by rw [PM,if_pos e3,tK],e3] at c2;obtain ⟨R,hR⟩: ∃R:List Itm,R= [⟨4,0⟩]:=⟨_,rfl⟩;rw [<- hR] at c2
 have r1:R.length=1:=by rw [hR];rfl
 have r2:nth R 0=⟨4,0⟩:=by rw [hR];rfl
 clear hR;refine UZ [1,2,3] Tryz.func9 rfl ZoS ?_;simp (disch:=omega) only [Tryz.f9,go_sem,seval];refine Wa (Co 3 ?_);simp (disch:=omega) only [go_sem,seval];refine ⟨_,_,Weak.fz (o:=1) (by rfl),?_⟩;simp (disch:=omega) only [Zr,Zn,Xa,Z1,ZO,ZD,go_sem,seval];refine Zg [2,3] _ _ _ _ ?_;simp (disch:=omega) only [go_sem,seval];refine Zq (Weak.fz (o:=0) (by rfl)) ?_;refine Zq (Weak.fz (o:=2) (by rfl)) ?_;refine Wa (Co 1 ?_);simp (disch:=omega) only [Zr,Zn,Xa,Z1,ZO,ZD,go_sem,seval]
 refine ⟨_,_,Weak.fz (o:=4) (by rfl),?_⟩;simp (disch:=omega) only [Zr,Zn,Xa,Z1,ZO,ZD,go_sem,seval];refine Zg [3] _ _ _ _ ?_;simp (disch:=omega) only [go_sem,seval];refine Zq (Weak.fz (o:=5) (by rfl)) ?_;refine Zg [] _ _ _ _ ?_;simp (disch:=omega) only [Zr,Zn,Xa,Z1,go_sem,seval];refine Vi c1 ?_;simp (disch:=omega) only [go_sem,seval];refine Vi c2 ?_;simp (disch:=omega) only [r1,r2,go_sem,seval]
theorem kF (p:Pln) (hp:p.wf 1048576):ACalls Tryz.prog 8 [.p (Ut p)] [] fun y H'=> ∃b:Bool,(b=true->p.routes.length<=12)/\y= .p (.bool b)/\H'= []:=by
 have hr:=hp.1;have hv:=hp.2.1;have hu:=hp.2.2.1;refine ACalls.pureE (YI Tryz.func8 rfl ZoR (Zg [] _ _ _ _ ?_));simp (disch:=omega) only [Tryz.f8,go_sem,seval];refine gF ?_ ?_<;>intro h1<;>simp (disch:=omega) only [Sh.out h1,go_sem,seval]
 ·exact ⟨false,Zb,rfl⟩
 ·refine cD ?_ ?_<;>intro h2<;>simp (disch:=omega) only [Sh.out h2,go_sem,seval]
  ·exact ⟨false,Zb,rfl⟩
  ·refine Zk [1] (fun k:Nat=> [(3,.p (.int .i64 k))]) (fun _=> [YU p]) (fun k=>k<=p.routes.length) (fun k=>p.routes.length-k) 0 Zb (Weak.mk ?_) ?_
   ·simp (disch:=omega) only [YU,go_sem,seval]
   ·intro k hk;simp (disch:=omega) only [YU,go_sem,seval];refine cD ?_ ?_<;>intro h3<;>simp (disch:=omega) only [Sh.out h3,go_sem,seval]
    ·have hk2:k<p.routes.length:=Za
     obtain ⟨_,_,w1,_,w2,_⟩:=hv _ (ZL hk2);refine gF ?_ ?_<;>intro h4<;>simp (disch:=omega) only [Sh.out h4,go_sem,seval]
     ·exact ⟨false,Zb,rfl⟩
     ·refine cD ?_ ?_<;>intro h5<;>simp (disch:=omega) only [Sh.out h5,go_sem,seval]
      ·exact ⟨false,Zb,rfl⟩
      ·exact ⟨k+1,Za,Za,Weak.mk (by simp (disch:=omega) only [YU,go_sem,seval])⟩
    ·exact ⟨true,fun _=>Za,rfl⟩
theorem fH (x:Inst) (p:Pln):0<=(D3 x p).1/\(D3 x p).1<=72057594037927936:=by
 unfold D3 Xm
 split
 ·split
  ·simp
  ·split
   ·simp
   ·simp only;omega
 ·simp
theorem HD (x:Inst) (hw:x.wf 1048576) (v:Itm) (p:Pln) (hp:p.wf 1048576):PC 3 [.p (Zv x),.p (YL v),.p (Ut p)] (.bool true):=by
 have hr:=hp.1;have hu:=hp.2.2.1;have hv:=hp.2.1
 have hb: ∀r∈p.routes,Mu r:=fun r hr=>by
  obtain ⟨_,_,w1,_,w2,_⟩:=hp.2.1 r hr;exact ⟨w2,w1⟩
 refine UZ [11] Tryz.func3 rfl ZoP ?_;simp (disch:=omega) only [Tryz.f3,go_sem,seval];refine (tN x hw).useV fun b hbb=> ?_;simp (disch:=omega) only [go_sem,seval];refine gF ?_ ?_<;>intro h<;>simp (disch:=omega) only [Sh.out h,go_sem,seval]
 ·refine (V9).use ?_;simp (disch:=omega) only [go_sem,seval]
 ·obtain ⟨hn,_,_,hx⟩:=hbb.1 (by simpa using h)
  have hn4:x.orders.length<=4:=Za
  refine (kF p hp).useV fun b2 hb2=> ?_;simp (disch:=omega) only [go_sem,seval];refine cD ?_ ?_<;>intro h2<;>simp (disch:=omega) only [Sh.out h2,go_sem,seval]
  ·refine (V9).use ?_;simp (disch:=omega) only [go_sem,seval]
  ·refine ZZ [11] [3,4,5] (fun k:Nat=> [(7,.p (.int .i64 k))]) (fun _=> [Zi x,.cells [.p (.int .i64 v.kind),.p (.int .i64 v.a)],YU p]) (fun k=>k<=p.routes.length/\ ∀j,j<k->(nth p.routes j).start=0/\(nth p.routes j).rests= []) (fun k=>p.routes.length-k) 0 ⟨Za,fun j hj=>Za⟩ (Weak.mk ?_) ?_
   ·simp (disch:=omega) only [Zi,YU,go_sem,seval]
   ·rintro k ⟨hk,hno⟩;simp (disch:=omega) only [Zi,YU,go_sem,seval];refine cD ?_ ?_<;>intro h3<;>simp (disch:=omega) only [Sh.out h3,go_sem,seval]
    ·have hk2:k<p.routes.length:=Za
     have hbk:=hb _ (Zt hk2);refine gF ?_ ?_<;>intro h4<;>simp (disch:=omega) only [Sh.out h4,go_sem,seval]
     ·refine (V9).use ?_;simp (disch:=omega) only [go_sem,seval]
     ·refine cD ?_ ?_<;>intro h5<;>simp (disch:=omega) only [Sh.out h5,go_sem,seval]
      ·refine (V9).use ?_;simp (disch:=omega) only [go_sem,seval]
      ·exact ⟨k+1,⟨Za,Zp.2 ⟨hno,Za,List.length_eq_zero_iff.1 Za⟩⟩,Za,Weak.mk (by simp (disch:=omega) only [Zi,YU,go_sem,seval])⟩
    ·have hkl:k=p.routes.length:=Za
     subst hkl
     have h0: ∀r∈p.routes,r.start=0/\r.rests= []:=fun r hr=>by
      obtain ⟨j,hj,rfl⟩:=ZN.1 hr;rw [<- Zh hj];exact hno j hj
     have c1:=pM x hx hn4 v;refine Vi c1 ?_;simp (disch:=omega) only [go_sem,seval]
     by_cases e0:Bn x [v]=0
     ·have e1:Ub x [v]=0:=by
       unfold Bn at e0
       split at e0
       ·rename_i c;exact absurd e0 c
       ·rename_i c;exact Z3.1 c
      have e2:WS x=0:=by
       unfold Bn at e0;rw [if_neg Za] at e0
       split at e0
       ·rename_i c;exact absurd e0 c
       ·rename_i c;exact Z3.1 c
      have hI:=(F5.1 e1).1;have hy:=Ul hx hI
      have hyn:(Zm x [v]).orders.length<=4:=by rw [WW.1];exact hn4
      have hvI:X9 x v=true:=hI v Zb;obtain ⟨_,_,_,t1,t2,t3⟩:=TE hx hn4 e2 hvI;have c2:=Mw x (AJ hx) (NS hx) [v] false Zb;have c3:=Zk6 x hx hn4;have c4:=dI (Zm x [v]) p hy Za Za hb;have r1:=Kt hx hn4;have r2:=Kt hy hyn
      have v1:KK x [v]=Zm x [v]:=by rw [KK,if_pos e1]
      have hpr:(D3 (Zm x [v]) p).2=0->X1 (Zm x [v])<=(D3 (Zm x [v]) p).1:=fun hz=>by
       unfold D3 at hz ⊢
       split at hz
       ·rename_i hk;rw [if_pos hk];exact (eU hy hyn hk h0).2.2
       ·rename_i hk;exact absurd hz hk
      have hprr:=fH (Zm x [v]) p;rw [v1,e1] at c2;rw [e0,t1];generalize Zm x [v]=Y at c2 c4 r2 hpr t1 t2 t3 hprr;generalize X1 Y=b at r2 hpr t1 t2 t3;generalize WS x=e at c3 e2;subst e2;generalize X1 x=a at c3 r1 t1 t2 t3;generalize D3 Y p=q at c4 hpr hprr;obtain ⟨q1,q2⟩:=q;simp only at c4 hpr hprr;simp (disch:=omega) only [go_sem,seval];refine Wa (Co 3 ?_);simp (disch:=omega) only [go_sem,seval];refine ⟨_,_,Weak.fz (o:=3) (by rfl),?_⟩;simp (disch:=omega) only [Zr,Zn,Xa,Z1,ZO,ZD,go_sem,seval]
      refine Vi c2 ?_;simp (disch:=omega) only [go_sem,seval];refine Zg [] _ _ _ _ ?_;simp (disch:=omega) only [go_sem,seval];refine MM c3 fun p c' e' hR=> ?_;obtain ⟨rfl,rfl⟩:=hR;simp (disch:=omega) only [go_sem,seval];refine Vi c4 ?_;simp (disch:=omega) only [go_sem,seval]
      by_cases z:q2=0
      ·have:=hpr z;subst z;simp (disch:=omega) only [go_sem,seval];refine gT ?_ ?_<;>intro q5<;>simp (disch:=omega) only [Sh.out q5,go_sem,seval]
       ·refine (V9).use ?_;simp (disch:=omega) only [go_sem,seval];simp [q5]
       ·exact absurd q5 Za
      ·simp (disch:=omega) only [z,go_sem,seval];refine (V9).use ?_;simp (disch:=omega) only [go_sem,seval]
       try simp
     ·have e1:E1 x [v]=0:=by rw [E1,if_neg e0]
      rw [e1];refine cD ?_ ?_<;>intro h6<;>simp (disch:=omega) only [Sh.out h6,go_sem,seval]
      ·refine (V9).use ?_;simp (disch:=omega) only [go_sem,seval]
      ·exact absurd (Z3.1 h6) e0
end Go.Proofs.YtenjikkmmibffaaGreatDoor.K
