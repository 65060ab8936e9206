/- Declarations that the closing texts need, part 18: joined by tools/slim.py. -/
import Derived.Test.YtenjikkmmibffaaGreatDoorI17
import Derived.Shelf.Slices.In.SortNone
import Derived.Shelf.Sort.Plain
set_option linter.unusedVariables false
set_option linter.unusedSimpArgs false
namespace Go.Proofs.YtenjikkmmibffaaGreatDoor.K
open Go Go.AM Go.Proofs
set_option maxRecDepth 8000
theorem E7 {x:Inst} (hx:InstOk x) {c:Col} (h:c∈XG x): ∃(k:Nat) (m:List Vis),k<x.types.length/\FY x k m=true/\c=YR x k (Xt m) m:=by
 obtain ⟨k,S,h1,h2,h3,h4,rfl⟩:=BS.1 h;have hf:=XJ hx
 have hopn:0<=(nth x.types ((k:Nat):Int).toNat).opn:=by
  simp_all [WS]
 unfold VU at h4 ⊢
 split at h4
 ·rename_i hc;rw [if_pos hc];have hS:S / pw x.orders.length=0:=Qw h3;have ha:Alw x S:=(Qt (by have:=hf.len;omega) hS hf.val).1 hc.1;rw [O0 hx Za hS ha hopn] at hc ⊢;rcases DS _ _ hc.2 with ⟨e,_⟩ | ⟨m,m1,m2,m3⟩
  ·cases e
  ·have m3:(BY x (k:Int) S (WD,false)).1=_:=m3;simp only [Db,ZB,Zq] at m2;have hr:RightV x m:=WI (r:=Q6 (k:Int) m) (Um m2.2.2);have e:=m2.1;rw [hr.ord hf] at e
   grind
 ·simp at h4
theorem sB {α β:Type} [Inhabited α] [Inhabited β] {f:α->β} {l:List α} {i:Nat} (h:i<l.length):nth (l.map f) i=f (nth l i):=by
 grind [Zh]
set_option maxHeartbeats 2000000
def Sk (f:Nat->Nat) (z:Int):Int:=if 0<=z then (f z.toNat:Nat) else z
theorem Sl {f:Nat->Nat} {z:Int} :0<=Sk f z↔0<=z:=by grind [Sk]
theorem Dy {f:Nat->Nat} {a:List Int} {i:Nat} (h:i<a.length):nth (a.map (Sk f)) i=Sk f (nth a i):=sB h
structure Eas (x y:Inst) (l m:List Col) (f:Nat->Nat):Prop where
 len:y.orders.length=x.orders.length
 off: ∀k,k<x.orders.length->(nth y.orders k).off=(nth x.orders k).off
 col: ∀j,j<l.length->f j<m.length/\(nth m (f j)).typ=(nth l j).typ/\(nth m (f j)).set=(nth l j).set/\(nth m (f j)).price<=(nth l j).price
 cnt: ∀j,j<l.length->(nth x.types (nth l j).typ.toNat).count<=(nth y.types (nth l j).typ.toNat).count
 skp: ∀k,k<x.orders.length->(nth x.orders k).off=false->0<=(nth x.orders k).penalty->0<=(nth y.orders k).penalty/\skR y k<=skR x k
section
variable {x y : Inst} {l m : List Col} {f : Nat -> Nat} (h : Eas x y l m f)
include h
theorem RI {a:List Int} (ha: ∀i,i<a.length->nth a i<l.length) {T:Int} : ∀n,n<=a.length->usdI m (a.map (Sk f)) T n<=usdI l a T n
 | 0,_=>ZA _
 | n+1,hn=>by
  have ih:=RI ha (T:=T) n Za;rw [usdI,usdI]
  have hp:K6 m (a.map (Sk f)) T n=true->K6 l a T n=true:=by
   unfold K6;rw [Dy (show n<a.length by omega)];simp only [ZB,Zq];rintro ⟨h1,h2,h3⟩;have h0:=Sl.1 h1;have hj:=h.col (nth a n).toNat (by grind)
   have e:(Sk f (nth a n)).toNat=f (nth a n).toNat:=by simp_all [Sk]
   grind [Ca,Dy]
  grind
theorem qQ {a:List Int} {j:Nat} (hj:j<l.length):(VR (nth l j).set.toNat a j).map (Sk f)=VR (nth m (f j)).set.toNat (a.map (Sk f)) (f j:Nat):=by
 refine Q1 (by simp [VR]) fun i h1 h2=> ?_
 have hi:i<a.length:=by grind [VR]
 rw [<- Zh h1,<- Zh h2,Dy (by grind),Xy hi,Xy (by grind),(h.col j hj).2.2.1,Dy hi]
 split
 ·rfl
 ·rfl
theorem qP {a:List Int} {j k:Nat} (ha: ∀i,i<a.length->nth a i<l.length) (hj:j<l.length) (hc:Kk x l a j k=true):Kk y m (a.map (Sk f)) (f j) k=true:=by
 obtain ⟨c1,c2,c3,_⟩:=h.col j hj;unfold Kk at hc ⊢;simp only [ZB,Zq,J4] at hc ⊢;obtain ⟨h1,h2,h3⟩:=hc;rw [c2,c3,Z1];refine ⟨h1,?_,fun i hi hb=> ?_⟩
 ·have u:=RI h ha (T:=(nth l j).typ) a.length (ZA _);have:=h.cnt j hj;omega
 simp_all [Dy,Sk,if_neg]
theorem Et : ∀(d:Nat) (a:List Int) (p p':Int),d<=x.orders.length->a.length=x.orders.length->(∀i,i<a.length->nth a i<l.length)->p'<=p-> ∀q∈Q9 x l d a p,∃q'∈Q9 y m d (a.map (Sk f)) p',q'.2<=q.2
 | 0,a,p,p',_,_,_,hp,q,hq=>by
  simp_all [Q9]
 | d+1,a,p,p',hd,hl,ha,hp,q,hq=>by
  have hk:x.orders.length-(d+1)<x.orders.length:=Za
  rw [Q9] at hq;rw [Q9,h.len,h.off _ hk,Dy Za];simp only [Sl]
  by_cases c:(nth x.orders (x.orders.length-(d+1))).off=true\/0<=nth a (x.orders.length-(d+1))
  ·rw [if_pos c] at hq ⊢;exact Et d a p p' Za hl ha hp q hq
  ·rw [if_neg c] at hq ⊢;rcases Xd.1 hq with hq | hq
   ·obtain ⟨j,hj,hq⟩:=XU.1 hq;have hj:=ZL.1 hj
    split at hq
    ·rename_i hc;obtain ⟨c1,c2,c3,c4⟩:=h.col j hj
     obtain ⟨q',h1,h2⟩:=Et d (VR (nth l j).set.toNat a j) (p+(nth l j).price) (p'+(nth m (f j)).price) Za (by rw [Uq];exact hl) (fun i hi=>by
      grind [Uq,Xy]) Za q hq
     rw [qQ h hj] at h1;refine ⟨q',ED _ (XU.2 ⟨f j,ZL.2 c1,?_⟩),h2⟩;rw [if_pos (qP h ha hj hc)];exact h1
    ·simp at hq
   ·split at hq
    ·rename_i hc;obtain ⟨s1,s2⟩:=h.skp _ hk (by grind) hc;obtain ⟨q',h1,h2⟩:=Et d a (p+skR x (x.orders.length-(d+1))) (p'+skR y (x.orders.length-(d+1))) Za hl ha Za q hq
     grind
    ·simp at hq
end
theorem Ij {l:List Col} : ∀(L:List (List Int×Int)) (b:Chc),(b.found=true->(L.foldl (YN l) b).found=true/\(L.foldl (YN l) b).price<=b.price)/\(∀q∈L,(L.foldl (YN l) b).found=true/\(L.foldl (YN l) b).price<=q.2)/\((L.foldl (YN l) b).found=true->L.foldl (YN l) b=b\/ ∃q∈L,(L.foldl (YN l) b).price=q.2)
 | [],b=>⟨fun h=>⟨h,Int.le_refl _⟩,fun q hq=>by simp at hq,fun _=> .inl rfl⟩
 | q::L,b=>by
  rw [XP];obtain ⟨i1,i2,i3⟩:=Ij (l:=l) L (YN l b q)
  have hf:(YN l b q).found=true/\(YN l b q).price<=q.2/\(b.found=true->(YN l b q).price<=b.price)/\(YN l b q=b\/(YN l b q).price=q.2):=by
   unfold YN
   grind
  obtain ⟨f1,f2,f3,f4⟩:=hf;obtain ⟨g1,g2⟩:=i1 f1;refine ⟨fun hb=>⟨g1,Int.le_trans g2 (f3 hb)⟩,fun q' hq=> ?_,fun hfo=> ?_⟩
  ·grind
  grind
noncomputable def Ef (x:Inst):List (List Int×Int):=Q9 x (XG x) x.orders.length (List.replicate x.orders.length (-1)) 0
theorem AT {x:Inst} (hx:InstOk x) (hn:x.orders.length<=4):(Wa x=24/\XW x=0/\Ef x= [])\/(Wa x=0/\(∃q∈Ef x,XW x=q.2)/\ ∀q∈Ef x,XW x<=q.2):=by
 obtain ⟨hl,_⟩:=Er hn (uN hx);have hr:=H5 hx hn;obtain ⟨u1,u2,u3⟩:=Ij (l:=XG x) (Ef x) zCh;have ea:Eb x (XG x)=(Ef x).foldl (YN (XG x)) zCh:=rfl;rw [<- ea] at u1 u2 u3;obtain ⟨b,hb,h1,h2⟩:=LU x;rcases hb with ⟨k1,_⟩ | ⟨_,⟨c,kc,k2⟩,_⟩ | ⟨_,_,k3⟩
 ·omega
 ·grind
 ·rcases k3 with ⟨k4,rfl,k5⟩ | ⟨k4,rfl,k5⟩
  ·refine .inl ⟨k5,(h1 Za).2,?_⟩
   cases hc:Ef x with
   | nil=>rfl
   | cons q L =>
    grind
  ·have e:=(h2 k5).1;have e:XW x=(Eb x (XG x)).price:=e;refine .inr ⟨k5,?_,fun q hq=>by grind⟩;rcases u3 k4 with g | ⟨q,hq,g⟩
   ·rw [g] at k4;cases k4
   grind
theorem tV {x y:Inst} {f:Nat->Nat} (hx:InstOk x) (hy:InstOk y) (hn:x.orders.length<=4) (h:Eas x y (XG x) (XG y) f) (h0:Wa x=0):Wa y=0/\XW y<=XW x:=by
 rcases AT hx hn with ⟨g,_⟩ | ⟨_,⟨q,hq,e⟩,_⟩
 ·omega
 ·obtain ⟨q',h1,h2⟩:=Et h x.orders.length (List.replicate x.orders.length (-1)) 0 0 (ZA _) Zb (fun i hi=>by
   grind [EJ]) (Int.le_refl _) q hq
  have em:(List.replicate x.orders.length (-1:Int)).map (Sk f)=List.replicate y.orders.length (-1):=by
   rw [Ar,h.len];rfl
  rw [em] at h1
  have h1:q'∈Ef y:=by simp_all [Ef]
  rcases AT hy (by simp_all) with ⟨_,_,g⟩ | ⟨g,_,g2⟩
  ·grind
  grind
theorem AU {x:Inst} (hx:InstOk x) (hn:x.orders.length<=4):Wa x=0\/Wa x=24:=by
 grind [AT]
theorem qK {x y:Inst} (hx:InstOk x) (hy:InstOk y) (ht:y.types.length=x.types.length) (hp: ∀(k:Nat) (m:List Vis),k<x.types.length->(YH x (Q6 k m)).2=0->(YH y (Q6 k m)).2=0/\(YH y (Q6 k m)).1<=(YH x (Q6 k m)).1) :
  ∃f:Nat->Nat,∀j,j<(XG x).length->(∃k:Nat,k<x.types.length/\(nth (XG x) j).typ=(k:Int))/\f j<(XG y).length/\(nth (XG y) (f j)).typ=(nth (XG x) j).typ/\(nth (XG y) (f j)).set=(nth (XG x) j).set/\(nth (XG y) (f j)).price<=(nth (XG x) j).price:=by
 have H: ∀j,j<(XG x).length-> ∃i,(∃k:Nat,k<x.types.length/\(nth (XG x) j).typ=(k:Int))/\i<(XG y).length/\(nth (XG y) i).typ=(nth (XG x) j).typ/\(nth (XG y) i).set=(nth (XG x) j).set/\(nth (XG y) i).price<=(nth (XG x) j).price:=fun j hj=>by
  obtain ⟨k,m,h1,h2,h3⟩:=E7 hx (Zt hj);have h4:(YH x (Q6 (k:Int) m)).2=0:=Av h2;obtain ⟨h5,h6⟩:=hp k m h1 h4;obtain ⟨i,i1,i2,i3,i4⟩:=fZ hy h5 ⟨by show (0:Int)<=(k:Int);omega,by show (k:Int)<_;omega⟩ rfl rfl;rw [h3];exact ⟨i,⟨k,h1,rfl⟩,i1,i2,i3,Int.le_trans i4 h6⟩
 classical
 exact ⟨fun j=>if g:j<(XG x).length then Classical.choose (H j g) else 0,fun j g=>by
  grind⟩
theorem Ng {x:Inst} {l:List Col} (h: ∀k,k<x.orders.length->(nth x.orders k).off=false->0<=(nth x.orders k).penalty): ∀(d:Nat) (a:List Int) (p:Int),d<=x.orders.length->Q9 x l d a p≠ []
 | 0,a,p,_=>by simp [Q9]
 | d+1,a,p,hd=>by
  rw [Q9]
  split
  ·exact Ng h d a p Za
  ·rename_i c;have:=h (x.orders.length-(d+1)) Za (by grind);rw [if_pos this];intro e;exact Ng h d a _ Za (V5.1 e).2
theorem EH {x:Inst} {l:List Col} (hl: ∀j,j<l.length->0<=(nth l j).price/\(nth l j).price<=18014398509481984) (hs: ∀k,k<x.orders.length->(nth x.orders k).off=false->0<=(nth x.orders k).penalty->0<=skR x k/\skR x k<=18014398509481984) :
  ∀(d:Nat) (a:List Int) (p:Int),d<=x.orders.length-> ∀q∈Q9 x l d a p,p<=q.2/\q.2<=p+(d:Nat)*18014398509481984
 | 0,a,p,_,q,hq=>by
  simp_all [Q9]
 | d+1,a,p,hd,q,hq=>by
  have hk:x.orders.length-(d+1)<x.orders.length:=Za
  rw [Q9] at hq
  split at hq
  ·have:=EH hl hs d a p Za q hq;omega
  ·rename_i c;rcases Xd.1 hq with hq | hq
   ·obtain ⟨j,hj,hq⟩:=XU.1 hq
    split at hq
    ·have h1:=hl j (ZL.1 hj);have:=EH hl hs d _ _ Za q hq;omega
    ·simp at hq
   ·split at hq
    ·rename_i hc;have h1:=hs _ hk (by grind) hc;have:=EH hl hs d _ _ Za q hq;omega
    ·simp at hq
theorem QH {x:Inst} (hx:InstOk x) (hn:x.orders.length<=4):0<=XW x/\XW x<=72057594037927936:=by
 rcases AT hx hn with ⟨_,g,_⟩ | ⟨_,⟨q,hq,e⟩,_⟩
 ·omega
 ·have hr:=H5 hx hn
  have:=EH (x:=x) (l:=XG x) (fun j hj=>by
   simp_all [Zt,rightB]) (N1 hx).1 x.orders.length _ 0 (ZA _) q hq
  omega
theorem Y3 {x:Inst} {l:List Itm} :(Zk x l).orders.length=x.orders.length/\(Zk x l).types.length=x.types.length:=⟨YW _ _,WW _ _⟩
theorem tT {x y:Inst} {k:Nat} (hl:y.orders.length=x.orders.length) (ho:(nth y.orders k).off=(nth x.orders k).off) (hw:(nth y.orders k).now=(nth x.orders k).now) (hp:(nth y.orders k).penalty=(nth x.orders k).penalty):skR y k=skR x k:=by
 grind [skR,unsF]
theorem GA {x:Inst} {l:List Itm} (hx:InstOk x) (hn:x.orders.length<=4) (hI: ∀v∈l,XB x v=true) (h:Wa x=0):Wa (Zk x l)=0/\XW (Zk x l)<=XW x:=by
 have hy:=Vm hx hI;obtain ⟨ol,tl⟩:=Y3 (x:=x) (l:=l);have on: ∀i,i<x.orders.length->nth (Zk x l).orders i=WN (nth x.orders i) i l:=fun i h=>Z0 h;have tn: ∀i,i<x.types.length->nth (Zk x l).types i=WC (nth x.types i) i l:=fun i h=>Wk h;obtain ⟨f,hf⟩:=qK hx hy tl fun k m _ he=>PG hx hy hI he;refine tV hx hy hn (f:=f) ⟨ol,fun k hk=>by rw [on k hk];rfl,fun j hj=>(hf j hj).2,fun j hj=> ?_,fun k hk ho hp=> ?_⟩ h
 ·obtain ⟨⟨k,hk,e⟩,_⟩:=hf j hj;have hc:=hx.types.2 k hk;unfold Us at hc;have hc:=hc.1.1.1.1.1.1.2;rw [CR] at hc;rw [e,XO,tn k hk];simp only [WC];omega
 ·have hn10:(⟨10,((k:Nat):Int)⟩:Itm) ∉ l:=fun hm=>by
   grind [KB,A5]
  have e1:(nth (Zk x l).orders k).penalty=(nth x.orders k).penalty:=by simp_all [WN]
  refine ⟨Za,?_⟩;rw [tT ol (by rw [on k hk];rfl) (by rw [on k hk];rfl) e1];omega
theorem mV {x:Inst} {L L':List Itm} (hx:InstOk x) (hn:x.orders.length<=4) (hI: ∀v∈L',XB x v=true) (hs: ∀v∈L,v∈L') (h:Wa (Zk x L)=0):Wa (Zk x L')=0/\XW (Zk x L')<=XW (Zk x L):=by
 rw [<- L8 hs hI]
 grind [GA,Vm,Y3,jA]
theorem Fu {x:Inst} {v:Itm} :Vd x [v]=if XB x v=true then 0 else 7:=by
 cases h:XB x v with
 | true=>rw [if_pos rfl];exact Ky.2 ⟨fun w hw=>by simp only [Z5,Y6,Ws] at hw;subst hw;exact h,Zb⟩
 | false =>
  rw [if_neg Zb]
  have e0:WH x [v] 0=7:=by rw [WH,show nth [v] 0=v from rfl,h];rfl
  rw [Af (k:=0) Zb (fun j hj=>Za) (by rw [e0];decide),e0]
noncomputable def Wu (x:Inst) (l:List Itm):Int:=if Vd x l≠0 then Vd x l else if Wa x≠0 then Wa x else Wa (Zk x l)
noncomputable def W3 (x:Inst) (l:List Itm):Int:=if Wu x l=0 then XW x-XW (Zk x l) else 0
noncomputable def fD (x:Inst):List Itm:=(Kn x 10).filter fun v=>decide (0<XW x-XW (Zk x [v]))
theorem SQ {x:Inst} (hx:InstOk x) (hn:x.orders.length<=4) (h0:Wa x=0) {v:Itm} (hv:XB x v=true):Wa (Zk x [v])=0/\XW (Zk x [v])<=XW x :=
 GA hx hn (fun w hw=>by simp only [Z5,Y6,Ws] at hw;subst hw;exact hv) h0
theorem uH {x:Inst} {l:List Itm} (hx:InstOk x) (hn:x.orders.length<=4) (h:Wu x l=0):0<=W3 x l:=by
 rw [W3,if_pos h];unfold Wu at h
 split at h
 ·rename_i c;exact absurd h c
 ·rename_i c
  split at h
  ·rename_i c2;exact absurd h c2
  ·rename_i c2;have:=(GA hx hn (Ky.1 (Z2.1 c)).1 (Z2.1 c2)).2;omega
theorem nF {x:Inst} {l:List Itm} {v:Itm} (hx:InstOk x) (hn:x.orders.length<=4) (h:Wu x l=0) (h2:Wu x (l++ [v])=0):W3 x l<=W3 x (l++ [v]):=by
 rw [W3,if_pos h,W3,if_pos h2]
 have e1:Vd x (l++ [v])=0:=by
  unfold Wu at h2
  split at h2
  ·rename_i c;exact absurd h2 c
  ·rename_i c;exact Z2.1 c
 have e2:Wa (Zk x l)=0:=by
  unfold Wu at h
  split at h
  ·rename_i c;exact absurd h c
  ·split at h
   ·rename_i c2;exact absurd h c2
   ·exact h
 have:=(mV (L:=l) (L':=l++ [v]) hx hn (Ky.1 e1).1 (fun w hw=>ED _ hw) e2).2;omega
set_option maxRecDepth 60000
set_option maxHeartbeats 8000000
def ZhA : Typ:= { name:= [118],count:=1,src:=0,dst:=0,cap_c:=false,cap:= [5],cls:=9,drive:=9,opn:=0,rest:=0,skills:=0,fixed:=3,perMile:=0,perTick:=0,prof:=0 }
def Zhz : Ord:= { name:= [111],load_c:=false,load:= [1],pick:=⟨-1,0,0,0⟩,drp:=⟨0,0,9,0⟩,skills:=1,penalty:=7,split:=1,last:= -1,now:= -1,off:=false }
def excX : Inst:= { net:= { places_c:=false,places:= [[97]],arcs_c:=true,arcs:= [] },types_c:=false,types:= [ZhA],orders_c:=false,orders:= [Zhz],apart_c:=true,apart:= [],before_c:=true,before:= [] }
theorem Hs : InstOk excX:=by
 refine ⟨⟨⟨⟨by decide,fun i hi=> ?_⟩,by decide⟩,fun i hi=> ?_⟩,⟨rfl,fun i hi=> ?_⟩,D5.1 (by rfl),rfl⟩
 ·match i,hi with
  | 0,_=>exact ⟨rfl,fun k hk=>Za⟩
 ·exact absurd hi (by simp [excX])
 ·have:i=0:=by simp [excX] at hi;omega
  subst this;exact ⟨⟨⟨⟨⟨⟨⟨⟨rfl,fun j hj=>Za⟩,rfl⟩,rfl,rfl⟩,rfl⟩,rfl⟩,rfl,by decide⟩,rfl,rfl⟩,rfl,rfl,rfl,rfl⟩
theorem TO : Kn excX 10= [⟨2,0⟩,⟨3,0⟩,⟨4,0⟩,⟨7,0⟩,⟨8,0⟩,⟨9,0⟩]:=by decide+kernel
theorem PX {x:Inst} {r:Rte} (h:XX x r=0): ∀v∈r.visits,Yj (ZE x r) (nth x.orders v.order.toNat).skills=true:=fun v hv=>by
 cases hb:Yj (ZE x r) (nth x.orders v.order.toNat).skills with
 | true=>rfl
 | false =>
  exfalso;have ha:(r.visits.any fun v=> !Yj (ZE x r) (nth x.orders v.order.toNat).skills)=true:=WL.2 ⟨v,hv,by rw [hb];rfl⟩;unfold XX at h
  split at h
  ·simp at h
  ·split at h
   ·rename_i h1;exact h1 h
   ·first
    | (rw [if_pos ha] at h;simp at h)
    | simp at h
theorem Nw {y:Inst} (hy:InstOk y) (l1:y.orders.length=1) (l2:y.types.length=1) (hs:(nth y.orders 0).skills=1) (ht:(nth y.types 0).skills=0) (hf:(nth y.orders 0).off=false) (hp:0<=(nth y.orders 0).penalty):Wa y=0/\XW y=skR y 0:=by
 have hno:XG y= []:=by
  rw [List.eq_nil_iff_forall_not_mem];intro c hc;obtain ⟨k,m,g1,g2,_⟩:=E7 hy hc;have he:=Um g2;have hr:=WI he;have hru:=Ui he
  obtain ⟨v,hv⟩: ∃v,v∈m:=by
   cases m with
   | nil=>exact absurd rfl hr.ne
   | cons v m=>exact ⟨v,Zb⟩
  have hi:=hr.inr v hv;have hab:=PX hru v hv
  have ek:k=0:=Za
  subst ek
  have ev0:v.order.toNat=0:=Za
  rw [ev0,hs] at hab;have hab:Yj (nth y.types 0) 1=true:=hab;simp only [Yj,ht,ZB,Zz,ZL] at hab;have:=hab.2 0 Za;simp at this
 have n0:nth [(-1:Int)] 0= -1:=rfl
 have hc:Ef y= [([-1],skR y 0)]:=by
  unfold Ef;rw [hno,l1];simp [Q9,l1,hf,hp,n0]
 rcases AT hy Za with ⟨_,_,g⟩ | ⟨g,⟨q,hq,e⟩,_⟩
 ·rw [hc] at g;cases g
 ·rw [hc] at hq;simp only [Z5,Y6,Ws] at hq;subst hq;exact ⟨g,e⟩
theorem Pb {y:Inst} (h1:y.orders.length=1) (h2:(nth y.orders 0).off=false) (h3:(nth y.orders 0).penalty=7) (h4:(nth y.orders 0).now= -1):skR y 0=117440512:=by
 unfold skR unsF;rw [h1];simp [h2,h3,h4,YB]
theorem Fv : Wa excX=0/\XW excX=117440512:=by
 obtain ⟨h1,h2⟩:=Nw Hs rfl rfl rfl rfl rfl (by decide);exact ⟨h1,by rw [h2];exact Pb rfl rfl rfl rfl⟩
theorem RK (w:Itm) (hw:XB excX w=true): ∀v∈ [w],XB excX v=true:=fun v hv=>by
 simp only [Z5,Y6,Ws] at hv;subst hv;exact hw
theorem gP {v:Itm} (h:XB excX v=true) (h4:v≠⟨4,0⟩):XW (Zk excX [v])=117440512:=by
 have hy:=Vm Hs (RK v h);have eo:nth (Zk excX [v]).orders 0=WN Zhz (0:Nat) [v]:=Z0 (by decide);have et:nth (Zk excX [v]).types 0=WC ZhA (0:Nat) [v]:=Wk (by decide)
 have n4:(⟨4,((0:Nat):Int)⟩:Itm) ∉ [v]:=fun hm=>by
  simp only [Z5,Y6,Ws] at hm;exact h4 hm.symm
 have n10:(⟨10,((0:Nat):Int)⟩:Itm) ∉ [v]:=fun hm=>by
  simp only [Z5,Y6,Ws] at hm;rw [<- hm] at h;exact absurd h (by decide+kernel)
 have hp:(nth (Zk excX [v]).orders 0).penalty=7:=by rw [eo];simp only [WN,if_neg n10];rfl
 obtain ⟨_,h2⟩:=Nw hy Y3.1 Y3.2 (by rw [eo];simp only [WN,if_neg n4];rfl) (by rw [et];rfl) (by rw [eo];rfl) (by rw [hp];decide);rw [h2];exact Pb Y3.1 (by rw [eo];rfl) hp (by rw [eo];rfl)
theorem MN : XW (Zk excX [⟨4,0⟩])=50331648:=by
 have hy:=Vm Hs (RK ⟨4,0⟩ (by decide+kernel));obtain ⟨y,hY⟩: ∃y,y=Zk excX [⟨4,0⟩]:=⟨_,rfl⟩;rw [<- hY] at hy ⊢
 have l1:y.orders.length=1:=by rw [hY];rfl
 have l2:y.types.length=1:=by rw [hY];rfl
 have hpr:(YH y ⟨0,0,true,[],false,[⟨0,true⟩]⟩)=(50331648,0):=by rw [hY];kernel_rfl
 have hp:(nth y.orders 0).penalty=7/\(nth y.orders 0).off=false/\(nth y.types 0).count=1/\(nth y.orders 0).now= -1:=by rw [hY];exact ⟨Ze,Ze,Ze,Ze⟩
 have ht:(nth y.types 0).fixed=3/\(nth y.types 0).perMile=0/\(nth y.types 0).perTick=0:=by rw [hY];exact ⟨Ze,Ze,Ze⟩
 have hsk:=Pb l1 hp.2.1 hp.1 hp.2.2.2;have n0:nth [(-1:Int)] 0= -1:=rfl
 -- no column is cheaper
 have hcol: ∀j,j<(XG y).length->50331648<=(nth (XG y) j).price:=fun j hj=>by
  obtain ⟨k,m,g1,g2,g3⟩:=E7 hy (Zt hj);have he:=Um g2
  have ek:k=0:=Za
  subst ek;obtain ⟨p1,p2,p3,p4,p5⟩:=Bp hy he;rw [g3]
  show 50331648<=(YH y (Q6 ((0:Nat):Int) m)).1
  have g2:(YH y (Q6 ((0:Nat):Int) m)).2=0:=Av g2;rw [YH,if_pos he] at g2 ⊢
  have hco:(We y (Q6 ((0:Nat):Int) m)).cost=3:=by
   rw [We,if_pos he]
   show (nth y.types 0).fixed+(nth y.types 0).perMile*_+(nth y.types 0).perTick*_=3
   rw [ht.1,ht.2.1,ht.2.2];simp
  unfold aX at p1;unfold YB at g2 ⊢
  split at g2
  ·cases g2
  ·split at g2
   ·cases g2
   ·rename_i c1 c2;rw [if_neg c1,if_neg c2];simp only;omega
 obtain ⟨j,j1,j2,j3,j4⟩:=fZ hy (r:=⟨0,0,true,[],false,[⟨0,true⟩]⟩) (by rw [hpr]) ⟨by decide,by rw [l2];decide⟩ rfl rfl;have j3:(nth (XG y) j).set=1:=j3;have j2:(nth (XG y) j).typ=0:=j2;rw [hpr] at j4
 have hch: ∀q,q∈Ef y↔(∃i,i<(XG y).length/\Kk y (XG y) [-1] i 0=true/\q=(VR (nth (XG y) i).set.toNat [-1] i,(nth (XG y) i).price))\/q=([-1],117440512):=fun q=>by
  unfold Ef;rw [l1];simp only [Q9,l1,hp.1,hp.2.1,Nat.reduceAdd,AE,List.replicate_one,n0];rw [if_neg Zb,if_pos (by decide),hsk];simp only [Xd,XU,ZL,Z5,Y6,Ws,Int.zero_add];refine or_congr ⟨?_,?_⟩ Iff.rfl
  ·rintro ⟨i,h1,h2⟩
   split at h2
   ·rename_i h3;simp only [Z5,Y6,Ws] at h2;exact ⟨i,h1,h3,h2⟩
   ·simp at h2
  ·rintro ⟨i,h1,h3,rfl⟩;exact ⟨i,h1,by rw [if_pos h3];simp⟩
 have hc:Kk y (XG y) [-1] j 0=true:=by
  unfold Kk;rw [j2,j3,show ((0:Int).toNat)=0 from rfl,hp.2.2.1]
  rfl
 rcases AT hy Za with ⟨_,_,g⟩ | ⟨_,⟨q,hq,e⟩,g⟩
 ·have:=(hch ([-1],117440512)).2 (.inr rfl);rw [g] at this;simp at this
 ·have h1:=g _ ((hch _).2 (.inl ⟨j,j1,hc,rfl⟩));simp only at h1;rcases (hch q).1 hq with ⟨i,i1,_,rfl⟩ | rfl
  ·have:=hcol i i1;simp only at e;omega
  ·simp only at e;omega
theorem qS : fD excX= [⟨4,0⟩]:=by
 unfold fD;rw [TO];have r:=fun v (h:XB excX v=true) (h4:v≠⟨4,0⟩)=>gP h h4;have e:=Fv.2;simp only [Cv,List.filter_nil,e,MN,r ⟨2,0⟩ (by decide+kernel) (by decide),r ⟨3,0⟩ (by decide+kernel) (by decide),r ⟨7,0⟩ (by decide+kernel) (by decide),r ⟨8,0⟩ (by decide+kernel) (by decide),r ⟨9,0⟩ (by decide+kernel) (by decide)]
 rfl
theorem qT : Wu excX [⟨4,0⟩]=0/\W3 excX [⟨4,0⟩]=67108864:=by
 have h1:Vd excX [⟨4,0⟩]=0:=by rw [Fu,if_pos (by decide+kernel)]
 obtain ⟨h2,h3⟩:=Fv;have h4:=(SQ Hs (by decide) h2 (v:=⟨4,0⟩) (by decide+kernel)).1
 have e:Wu excX [⟨4,0⟩]=0:=by rw [Wu,if_neg Za,if_neg Za];exact h4
 refine ⟨e,?_⟩;rw [W3,if_pos e,h3,MN];decide
theorem ZjI (x:Inst) (hx:InstOk x) (hn:x.orders.length<=4):ACalls Tryz.prog 47 [.p (Zv x)] [] fun y H'=> ∃p c e,(c=XW x/\e=Wa x)/\y= .tup [.p (JI p),.p (.int .i64 c),.p (.int .i64 e)]/\H'= []:=by
 have hs:=JN hx;refine (mW x hx hn (by have:=hs.be;omega) (by have:=hs.ap;omega)).mono fun y H' h=> ?_
 grind
theorem wV (x:Inst) (hx:InstOk x) (hn:x.orders.length<=4):ACalls Tryz.prog 12 [.p (Zv x)] [] fun y H'=> ∃p c e,(c=XW x/\e=Wa x)/\y= .tup [.p (JI p),.p (.int .i64 c),.p (.int .i64 e)]/\H'= []:=by
 have hs:=JN hx;refine (mX x hx hn (by have:=hs.be;omega)).mono fun y H' h=> ?_
 grind
theorem AS (x:Inst) (hx:InstOk x) (hn:x.orders.length<=4):PT 23 [.p (Zv x)] [.p (.int .i64 (XW x)),.p (.int .i64 (Wa x))]:=by
 have c1:=ZjI x hx hn;generalize Wa x=e at c1;generalize XW x=c at c1;refine Zf [] Tryz.func23 rfl Zh2 ?_;simp (disch:=omega) only [Tryz.f23,go_sem,seval];refine GH c1 fun p c' e' hR=> ?_;obtain ⟨rfl,rfl⟩:=hR;simp (disch:=omega) only [go_sem,seval];exact we
noncomputable def En (x:Inst) (l:List Itm):Int:=if Vd x l≠0 then Vd x l else Wa (Zk x l)
noncomputable def LP (x:Inst) (l:List Itm) (full:Int):Int:=if En x l=0 then full-XW (Zk x l) else 0
theorem DP (x:Inst) (hx:InstOk x) (hn:x.orders.length<=4) (l:List Itm) (c:Bool) (hl:l.length<=1048576) (full:Int) (hf:0<=full/\full<=72057594037927936):PT 24 [.p (Zv x),.p (.list c (l.map X1)),.p (.int .i64 full)] [.p (.int .i64 (LP x l full)),.p (.int .i64 (En x l))]:=by
 have hs:=JN hx;have c1:=Sz x hs (FJ hx) l c hl;refine Zf [] Tryz.func24 rfl Zh3 ?_;simp (disch:=omega) only [Tryz.f24,go_sem,seval];refine Wv c1 ?_;simp (disch:=omega) only [go_sem,seval]
 by_cases e0:Vd x l=0
 ·have hI:=(Ky.1 e0).1;have hy:=Vm hx hI
  have hyn:(Zk x l).orders.length<=4:=by rw [Y3.1];exact hn
  have c2:=AS _ hy hyn;have he:=AU hy hyn;have hr:=QH hy hyn
  have v1:Ko x l=Zk x l:=by rw [Ko,if_pos e0]
  have v2:En x l=Wa (Zk x l):=by rw [En,if_neg Za]
  rw [LP,v1,v2,e0];generalize Zk x l=Y at c2 he hr;generalize Wa Y=e at c2 he;generalize XW Y=b at c2 hr;simp (disch:=omega) only [go_sem,seval];refine Wv c2 ?_;rcases he with rfl | rfl
  ·simp (disch:=omega) only [go_sem,seval];exact we
  ·simp (disch:=omega) only [go_sem,seval];exact we
 ·have v2:En x l=Vd x l:=by rw [En,if_pos e0]
  have v3:LP x l full=0:=by rw [LP,v2,if_neg e0]
  rw [v2,v3];refine cD ?_ ?_<;>intro h1<;>simp (disch:=omega) only [Sh.out h1,go_sem,seval]
  ·exact we
  ·exact absurd (Z2.1 h1) e0
theorem L3 {x:Inst} {l:List Itm} (h0:Vd x l=0) (h1:Wa x=0):Wu x l=En x l/\W3 x l=LP x l (XW x):=by
 have e:Wu x l=En x l:=by rw [Wu,En,if_neg Za,if_neg Za,if_neg Za]
 exact ⟨e,by rw [W3,LP,e]⟩
theorem ES (x:Inst) (hx:InstOk x) (hn:x.orders.length<=4) (l:List Itm) (c:Bool) (hl:l.length<=1048576):PT 15 [.p (Zv x),.p (.list c (l.map X1))] [.p (.int .i64 (W3 x l)),.p (.int .i64 (Wu x l))]:=by
 have c1:=Sz x (JN hx) (FJ hx) l c hl;have c2:=AS x hx hn;have c3:=DP x hx hn l c hl (XW x) (QH hx hn);have he:=AU hx hn;refine Zf [] Tryz.func15 rfl ZhX ?_;simp (disch:=omega) only [Tryz.f15,go_sem,seval];refine Wv c1 ?_;simp (disch:=omega) only [go_sem,seval]
 by_cases e0:Vd x l=0
 ·rw [e0];simp (disch:=omega) only [go_sem,seval];refine Wv c2 ?_;rcases he with h | h
  ·obtain ⟨v1,v2⟩:=L3 e0 h;rw [v1,v2,h];simp (disch:=omega) only [go_sem,seval];refine Wv c3 ?_;simp (disch:=omega) only [go_sem,seval];exact we
  ·have v1:Wu x l=24:=by rw [Wu,if_neg Za,if_pos Za,h]
   have v2:W3 x l=0:=by rw [W3,v1];rfl
   rw [v1,v2,h];simp (disch:=omega) only [go_sem,seval];exact we
 ·have v1:Wu x l=Vd x l:=by rw [Wu,if_pos e0]
  have v2:W3 x l=0:=by rw [W3,v1,if_neg e0]
  rw [v1,v2];refine cD ?_ ?_<;>intro h1<;>simp (disch:=omega) only [Sh.out h1,go_sem,seval]
  ·exact we
  ·exact absurd (Z2.1 h1) e0
theorem mR (x:Inst) (hx:InstOk x) (hn:x.orders.length<=4) (v:Itm):PT 10 [.p (Zv x),.p (X1 v)] [.p (.int .i64 (W3 x [v])),.p (.int .i64 (Wu x [v]))]:=by
 have c1:=rM x (JN hx) v;have c2:=AS x hx hn;have c3:=DP x hx hn [v] false Zb (XW x) (QH hx hn);have he:=AU hx hn;have e1:=Fu (x:=x) (v:=v);refine Zf [6] Tryz.func10 rfl ZhT ?_;simp (disch:=omega) only [Tryz.f10,go_sem,seval];refine (c1).use ?_;simp (disch:=omega) only [go_sem,seval]
 cases hv:XB x v with
 | false =>
  rw [hv] at e1
  have v1:Wu x [v]=7:=by rw [Wu,if_pos (by rw [e1];decide),e1];rfl
  have v2:W3 x [v]=0:=by rw [W3,v1];rfl
  rw [v1,v2];simp (disch:=omega) only [Vj,go_sem,seval];exact we
 | true =>
  rw [hv] at e1;have e1:Vd x [v]=0:=e1;simp (disch:=omega) only [YD,go_sem,seval];refine Wv c2 ?_;rcases he with h | h
  ·obtain ⟨v1,v2⟩:=L3 e1 h;rw [v1,v2,h];simp (disch:=omega) only [go_sem,seval];refine YO (Ad 3 ?_);simp (disch:=omega) only [go_sem,seval];refine ⟨_,_,Weak.fz (o:=2) (by rfl),?_⟩;simp (disch:=omega) only [Zr,Zn,Z6,ZX,ZK,Zy,go_sem,seval];refine Wv c3 ?_;simp (disch:=omega) only [go_sem,seval]
   try refine Zg [] _ _ _ _ ?_
   try simp (disch:=omega) only [go_sem,seval]
   exact we
  ·have v1:Wu x [v]=24:=by rw [Wu,if_neg Za,if_pos Za,h]
   have v2:W3 x [v]=0:=by rw [W3,v1];rfl
   rw [v1,v2,h];simp (disch:=omega) only [go_sem,seval];exact we
theorem lU (x:Inst) (hx:InstOk x) (hn:x.orders.length<=4) (l:List Itm) (c:Bool) (hl:l.length<=1048576):PT 16 [.p (Zv x),.p (.list c (l.map X1))] [.p (.int .i64 (W3 x l)),.p (.int .i64 (Wu x l))]:=by
 have c1:=LN x (JN hx) (FJ hx) l c hl;have c2:=wV x hx hn;have he:=AU hx hn;have hr:=QH hx hn;refine Zf [] Tryz.func16 rfl ZhY ?_;simp (disch:=omega) only [Tryz.f16,go_sem,seval];refine Wv c1 ?_;simp (disch:=omega) only [go_sem,seval]
 by_cases e0:Vd x l=0
 ·have hI:=(Ky.1 e0).1;have hy:=Vm hx hI
  have hyn:(Zk x l).orders.length<=4:=by rw [Y3.1];exact hn
  have c3:=wV _ hy hyn;have he2:=AU hy hyn;have hr2:=QH hy hyn
  have v1:Ko x l=Zk x l:=by rw [Ko,if_pos e0]
  have v2:Wu x l=if Wa x≠0 then Wa x else Wa (Zk x l):=by rw [Wu,if_neg Za]
  rw [W3,v1,v2,e0];generalize Zk x l=Y at c3 he2 hr2;generalize Wa x=e at c2 he;generalize XW x=a at c2 hr;generalize Wa Y=f at c3 he2;generalize XW Y=b at c3 hr2;simp (disch:=omega) only [go_sem,seval];refine GH c2 fun p c' e' hR=> ?_;obtain ⟨rfl,rfl⟩:=hR;rcases he with rfl | rfl
  ·simp (disch:=omega) only [go_sem,seval];refine GH c3 fun p c' e' hR=> ?_;obtain ⟨rfl,rfl⟩:=hR;rcases he2 with rfl | rfl
   ·simp (disch:=omega) only [go_sem,seval];exact we
   ·simp (disch:=omega) only [go_sem,seval];exact we
  ·simp (disch:=omega) only [go_sem,seval];exact we
 ·have v1:Wu x l=Vd x l:=by rw [Wu,if_pos e0]
  have v2:W3 x l=0:=by rw [W3,v1,if_neg e0]
  rw [v1,v2];refine cD ?_ ?_<;>intro h1<;>simp (disch:=omega) only [Sh.out h1,go_sem,seval]
  ·exact we
  ·exact absurd (Z2.1 h1) e0
theorem Zjy (x:Inst) (hx:InstOk x) (hn:x.orders.length<=4) (v:Itm):PT 14 [.p (Zv x),.p (X1 v)] [.p (.int .i64 (W3 x [v])),.p (.int .i64 (Wu x [v]))]:=by
 have c1:=lU x hx hn [v] false Zb;refine Zf [1] Tryz.func14 rfl ZhW ?_;simp (disch:=omega) only [Tryz.f14,go_sem,seval];refine YO (Ad 3 ?_);simp (disch:=omega) only [go_sem,seval];refine ⟨_,_,Weak.fz (o:=2) (by rfl),?_⟩;simp (disch:=omega) only [Zr,Zn,Z6,ZX,ZK,Zy,go_sem,seval];refine Wv c1 ?_;simp (disch:=omega) only [go_sem,seval]
 try refine Zg [] _ _ _ _ ?_
 try simp (disch:=omega) only [go_sem,seval]
 exact we
theorem qV {α:Type} [Inhabited α] {p:α->Bool} {l:List α} {k:Nat} (h:k<l.length):(l.take (k+1)).filter p=(l.take k).filter p++if p (nth l k)=true then [nth l k] else []:=by
 rw [Yb h,List.filter_append,<- Zh h]
 congr 1
 rw [Cv]
 split<;>simp
noncomputable def OZ (x:Inst):List Itm:=if Wa x=0 then fD x else []
theorem tM {x:Inst} (hx:InstOk x) (hn:x.orders.length<=4) (h0:Wa x=0) {v:Itm} (hv:XB x v=true):En x [v]=0/\LP x [v] (XW x)=XW x-XW (Zk x [v])/\Wu x [v]=0/\W3 x [v]=XW x-XW (Zk x [v])/\0<=XW x-XW (Zk x [v])/\XW x-XW (Zk x [v])<=72057594037927936:=by
 have e1:Vd x [v]=0:=by rw [Fu,if_pos hv]
 obtain ⟨h1,h2⟩:=SQ hx hn h0 hv
 have e2:En x [v]=0:=by rw [En,if_neg Za];exact h1
 obtain ⟨t1,t2⟩:=L3 e1 h0
 have e3:LP x [v] (XW x)=XW x-XW (Zk x [v]):=by rw [LP,if_pos e2]
 have r1:=QH hx hn;have hy:=Vm hx (l:= [v]) (fun w hw=>by simp only [Z5,Y6,Ws] at hw;subst hw;exact hv);have r2:=QH hy (by rw [Y3.1];exact hn);exact ⟨e2,e3,by rw [t1,e2],by rw [t2,e3],Za,Za⟩
theorem mQ (x:Inst) (hx:InstOk x) (hn:x.orders.length<=4):PT 19 [.p (Zv x)] [.p (.list (decide (Wa x≠0)) ((OZ x).map X1)),.p (.int .i64 (Wa x))]:=by
 have hs:=JN hx;have hrl:=Ga hs;have c1:=AS x hx hn;have c2:=Pm x hs;have he:=AU hx hn;refine Zf [5,14] Tryz.func19 rfl ZhZ ?_;simp (disch:=omega) only [Tryz.f19,go_sem,seval];refine Wv c1 ?_;rcases he with h0 | h0
 ·have c3:=fun v (hv:XB x v=true)=>DP x hx hn [v] false Zb (XW x) (QH hx hn);have hsv:=fun v (hv:XB x v=true)=>tM hx hn h0 hv
  have hv1:OZ x=fD x:=by rw [OZ,if_pos h0]
  have hbl:fD x=(Kn x 10).filter fun v=>decide (0<XW x-XW (Zk x [v])):=rfl;have hhas: ∀k,k<(Kn x 10).length->XB x (nth (Kn x 10) k)=true:=fun k hk=>Jo.1 (Zt hk);rw [hv1,hbl,h0];generalize Kn x 10=R at c2 hrl hhas;simp (disch:=omega) only [go_sem,seval];refine Zp (Weak.ofNil 6 2 (by simp (disch:=omega) only [go_sem,seval]) Zb (Weak.refl _ _ _)) ?_;refine Zg [8,14] _ _ _ _ ?_;simp (disch:=omega) only [go_sem,seval];refine (c2).use ?_;simp (disch:=omega) only [go_sem,seval];refine Z4 [8,14] [1,4,20,21] (fun q:Nat×List Itm=> [(6,.sl 1 0 q.2.length q.2.length),(22,.p (.int .i64 q.1))]) (fun q=> [Zj x,.elems 2 (q.2.map X1)]) (fun q=>q.1<=R.length/\q.2=(R.take q.1).filter fun v=>decide (0<XW x-XW (Zk x [v]))) (fun q=>R.length-q.1) (0,[]) ⟨Zb,Zb⟩ (Weak.mk ?_) ?_
  ·simp (disch:=omega) only [Zj,go_sem,seval]
  ·rintro ⟨k,m⟩ ⟨hk,hm⟩;simp only at hk hm
   have hml:m.length<=k:=by
    have h1:=List.length_filter_le (fun v=>decide (0<XW x-XW (Zk x [v]))) (R.take k);rw [<- hm,Xs] at h1;omega
   simp (disch:=omega) only [Zj,go_sem,seval];refine cD ?_ ?_<;>intro h1<;>simp (disch:=omega) only [Sh.out h1,go_sem,seval]
   ·have hk2:k<R.length:=Za
    have hsu:=qV (p:=fun v=>decide (0<XW x-XW (Zk x [v]))) hk2;have hv:=hhas k hk2;have d1:=c3 _ hv;obtain ⟨e2,e3,_,_,e6,e7⟩:=hsv _ hv;rw [e2,e3] at d1;refine YO (Ad 3 ?_);simp (disch:=omega) only [Zj,go_sem,seval];refine ⟨_,_,Weak.fz (o:=3) (by rfl),?_⟩;simp (disch:=omega) only [Zr,Zn,Z6,ZX,ZK,Zy,go_sem,seval];refine Wv d1 ?_;simp (disch:=omega) only [go_sem,seval];refine Zg [] _ _ _ _ ?_;simp (disch:=omega) only [go_sem,seval];refine cD ?_ ?_<;>intro h2<;>simp (disch:=omega) only [Sh.out h2,go_sem,seval]
    ·exact ⟨(k+1,m++ [nth R k]),⟨by simp only;omega,by simp only [hsu,hm];rw [if_pos (by simpa using h2)]⟩,by simp only;omega,Weak.mk (by simp (disch:=omega) only [Zj,go_sem,seval])⟩
    ·exact ⟨(k+1,m),⟨by simp only;omega,by simp only [hsu,hm];rw [if_neg (by simpa using h2),Wp]⟩,by simp only;omega,Weak.mk (by simp (disch:=omega) only [Zj,go_sem,seval])⟩
   ·have hkl:k=R.length:=Za
    subst hkl;rw [YV] at hm;rw [<- hm];refine Zp (Weak.fz (o:=1) (by rfl)) ?_;refine Zg [] _ _ _ _ ?_;simp (disch:=omega) only [Zr,Zn,Z6,ZX,Zj,go_sem,seval];exact we
 ·have hv1:OZ x= []:=by rw [OZ,if_neg Za]
  rw [hv1,h0];simp (disch:=omega) only [go_sem,seval];exact we
theorem RM (x:Inst) (hw:x.wf 1048576):ACalls Tryz.prog 7 [.p (Zv x)] [] fun y H'=> ∃b:Bool,(b=true↔x.orders.length<=2/\x.types.length<=2/\x.apart.length+x.before.length<=4/\InstOk x)/\y= .p (.bool b)/\H'= []:=by
 have w3:=hw.2.1;have w4:=hw.2.2.2.1;have w5:=hw.2.2.2.2.2.1;have w6:=hw.2.2.2.2.2.2.2.1;refine ACalls.pureE (YQ Tryz.func7 rfl Znq (Zg [] _ _ _ _ ?_));simp (disch:=omega) only [Tryz.f7,go_sem,seval];refine gT ?_ ?_<;>intro h<;>simp (disch:=omega) only [Sh.out h,go_sem,seval]
 ·refine gT ?_ ?_<;>intro h2<;>simp (disch:=omega) only [Sh.out h2,go_sem,seval]
  ·refine gT ?_ ?_<;>intro h3<;>simp (disch:=omega) only [Sh.out h3,go_sem,seval]
   ·refine ((zF x hw).frozenE).useV fun m hm=> ?_;simp (disch:=omega) only [go_sem,seval];refine ⟨decide (m.length=0),?_,Zb⟩;have:=hm.emp;rw [Zq,List.length_eq_zero_iff,this]
    constructor
    ·intro h2;exact ⟨Za,Za,Za,h2⟩
    ·intro h2;exact h2.2.2.2
   ·exact ⟨false,by simp;omega,rfl⟩
  ·exact ⟨false,by simp;omega,rfl⟩
 ·exact ⟨false,by simp;omega,rfl⟩
theorem Vp : PC 9 [] (.bool true):=by
 have c1:=mR excX Hs (by decide) ⟨4,0⟩;have c2:=mQ excX Hs (by decide);obtain ⟨e1,e2⟩:=qT;obtain ⟨e3,_⟩:=Fv;rw [e1,e2] at c1;rw [show OZ excX= [⟨4,0⟩] by rw [OZ,if_pos e3,qS],e3] at c2;obtain ⟨R,hR⟩: ∃R:List Itm,R= [⟨4,0⟩]:=⟨_,rfl⟩;rw [<- hR] at c2
 have r1:R.length=1:=by rw [hR];rfl
 have r2:nth R 0=⟨4,0⟩:=by rw [hR];rfl
 clear hR;refine Vw [1,2,3] Tryz.func9 rfl Znr ?_;simp (disch:=omega) only [Tryz.f9,go_sem,seval];refine YO (Ad 3 ?_);simp (disch:=omega) only [go_sem,seval];refine ⟨_,_,Weak.fz (o:=1) (by rfl),?_⟩;simp (disch:=omega) only [Zr,Zn,Z6,ZX,ZK,Zy,go_sem,seval];refine Zg [2,3] _ _ _ _ ?_;simp (disch:=omega) only [go_sem,seval];refine Zp (Weak.fz (o:=0) (by rfl)) ?_;refine Zp (Weak.fz (o:=2) (by rfl)) ?_;refine YO (Ad 1 ?_);simp (disch:=omega) only [Zr,Zn,Z6,ZX,ZK,Zy,go_sem,seval]
 refine ⟨_,_,Weak.fz (o:=4) (by rfl),?_⟩;simp (disch:=omega) only [Zr,Zn,Z6,ZX,ZK,Zy,go_sem,seval];refine Zg [3] _ _ _ _ ?_;simp (disch:=omega) only [go_sem,seval];refine Zp (Weak.fz (o:=5) (by rfl)) ?_;refine Zg [] _ _ _ _ ?_;simp (disch:=omega) only [Zr,Zn,Z6,ZX,go_sem,seval];refine Wv c1 ?_;simp (disch:=omega) only [go_sem,seval];refine Wv c2 ?_;simp (disch:=omega) only [r1,r2,go_sem,seval]
theorem oE (x:Inst) (hw:x.wf 1048576) (v:Itm) (l:List Itm) (c:Bool) (hl:l.length<=1048576):PC 4 [.p (Zv x),.p (X1 v),.p (.list c (l.map X1))] (.bool true):=by
 refine Vw [7] Tryz.func4 rfl Zno ?_;simp (disch:=omega) only [Tryz.f4,go_sem,seval];refine (RM x hw).useV fun b hb=> ?_;simp (disch:=omega) only [go_sem,seval];refine gF ?_ ?_<;>intro h<;>simp (disch:=omega) only [Sh.out h,go_sem,seval]
 ·refine (Vp).use ?_;simp (disch:=omega) only [go_sem,seval]
 ·obtain ⟨hn,_,_,hx⟩:=hb.1 (by simpa using h)
  have hn4:x.orders.length<=4:=Za
  refine cD ?_ ?_<;>intro h2<;>simp (disch:=omega) only [Sh.out h2,go_sem,seval]
  ·refine (Vp).use ?_;simp (disch:=omega) only [go_sem,seval]
  ·have c1:=mR x hx hn4 v;have c2:=Zjy x hx hn4 v;have c3:=ES x hx hn4 l c hl;have c4:=lU x hx hn4 l c hl;have c5:=ES x hx hn4 [v] false Zb;generalize W3 x [v]=C1 at c1 c2 c5;generalize Wu x [v]=E1 at c1 c2 c5;generalize W3 x l=C2 at c3 c4;generalize Wu x l=E2 at c3 c4;refine Wv c1 ?_;simp (disch:=omega) only [go_sem,seval];refine Wv c2 ?_;simp (disch:=omega) only [go_sem,seval];refine Wv c3 ?_;simp (disch:=omega) only [go_sem,seval];refine Wv c4 ?_;simp (disch:=omega) only [go_sem,seval];refine YO (Ad 3 ?_);simp (disch:=omega) only [go_sem,seval]
   refine ⟨_,_,Weak.fz (o:=2) (by rfl),?_⟩;simp (disch:=omega) only [Zr,Zn,Z6,ZX,ZK,Zy,go_sem,seval];refine Wv c5 ?_;simp (disch:=omega) only [go_sem,seval];refine Zg [] _ _ _ _ ?_;simp (disch:=omega) only [eq_self,VH,go_sem,seval];refine (Vp).use ?_;simp (disch:=omega) only [go_sem,seval]
   try simp
theorem Ll (x:Inst) (hw:x.wf 1048576) (l:List Itm) (c:Bool) (hl:l.length<=1048576) (v:Itm):PC 5 [.p (Zv x),.p (.list c (l.map X1)),.p (X1 v)] (.bool true):=by
 refine Vw [5,7] Tryz.func5 rfl Znp ?_;simp (disch:=omega) only [Tryz.f5,go_sem,seval];refine (RM x hw).useV fun b hb=> ?_;simp (disch:=omega) only [go_sem,seval];refine gF ?_ ?_<;>intro h<;>simp (disch:=omega) only [Sh.out h,go_sem,seval]
 ·refine (Vp).use ?_;simp (disch:=omega) only [go_sem,seval]
 ·obtain ⟨hn,_,_,hx⟩:=hb.1 (by simpa using h)
  have hn4:x.orders.length<=4:=Za
  refine cD ?_ ?_<;>intro h2<;>simp (disch:=omega) only [Sh.out h2,go_sem,seval]
  ·refine (Vp).use ?_;simp (disch:=omega) only [go_sem,seval]
  ·have c1:=ES x hx hn4 l c hl;have c2:=ES x hx hn4 (l++ [v]) false (by simp;omega);have p1:Wu x l=0->0<=W3 x l:=uH hx hn4;have p2:Wu x l=0->Wu x (l++ [v])=0->W3 x l<=W3 x (l++ [v]):=nF hx hn4;generalize W3 x l=C1 at c1 p1 p2;generalize Wu x l=E1 at c1 p1 p2;generalize W3 x (l++ [v])=C2 at c2 p2;generalize Wu x (l++ [v])=E2 at c2 p2;refine Wv c1 ?_;simp (disch:=omega) only [go_sem,seval];refine Zp (Weak.ofNil 9 2 (by simp (disch:=omega) only [go_sem,seval]) Zb (Weak.refl _ _ _)) ?_;refine Zg [7] _ _ _ _ ?_
   simp (disch:=omega) only [go_sem,seval];refine Zp (Weak.fz (o:=2) (by rfl)) ?_;refine Zg [] _ _ _ _ ?_;simp (disch:=omega) only [Zr,Zn,Z6,ZX,Xz,go_sem,seval];rw [show (l.map X1++ [.agg [.int .i64 v.kind,.int .i64 v.a]])=(l++ [v]).map X1 by rw [Xz];rfl];refine Wv c2 ?_;simp (disch:=omega) only [go_sem,seval];refine gF ?_ ?_<;>intro h3<;>simp (disch:=omega) only [Sh.out h3,go_sem,seval]
   ·refine (Vp).use ?_;simp (disch:=omega) only [go_sem,seval]
   ·refine cD ?_ ?_<;>intro h4<;>simp (disch:=omega) only [Sh.out h4,go_sem,seval]
    ·refine (Vp).use ?_;simp (disch:=omega) only [go_sem,seval]
    ·have q1:=p1 Za;have q2:=p2 Za Za;refine gT ?_ ?_<;>intro q5<;>simp (disch:=omega) only [Sh.out q5,go_sem,seval]
     ·refine gT ?_ ?_<;>intro q6<;>simp (disch:=omega) only [Sh.out q6,go_sem,seval]
      ·refine (Vp).use ?_;simp (disch:=omega) only [go_sem,seval];simp [q6]
      ·exact absurd q6 Za
     ·exact absurd q5 Za
end Go.Proofs.YtenjikkmmibffaaGreatDoor.K
