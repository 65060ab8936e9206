/- Declarations that the closing texts need, part 18: joined by tools/slim.py. -/
import Derived.Test.YtenjikkmmibffaaGreatDoorY17
import Derived.Shelf.Slices.In.SortNone
import Derived.Shelf.Sort.Plain
set_option linter.unusedVariables false
set_option linter.unusedSimpArgs false
namespace Go.Proofs.YtenjikkmmibffaaGreatDoor.K
open Go Go.AM Go.Proofs
set_option maxRecDepth 8000
theorem Fa {x:Inst} (hx:InstOk x) {c:Col} (h:c∈XF x): ∃(k:Nat) (m:List Vis),k<x.types.length/\F2 x k m=true/\c=YU x k (Xt m) m:=by
 obtain ⟨k,S,h1,h2,h3,h4,rfl⟩:=BY.1 h;have hf:=XK hx
 have hopn:0<=(nth x.types ((k:Nat):Int).toNat).opn:=by
  simp_all [WM]
 unfold VQ at h4 ⊢
 split at h4
 ·rename_i hc;rw [if_pos hc];have hS:S / pw x.orders.length=0:=QH h3;have ha:Alw x S:=(QE (by have:=hf.len;omega) hS hf.val).1 hc.1;rw [Pf hx Za hS ha hopn] at hc ⊢;rcases DY _ _ hc.2 with ⟨e,_⟩ | ⟨m,m1,m2,m3⟩
  ·cases e
  ·have m3:(B4 x (k:Int) S (WA,false)).1=_:=m3;simp only [Dj,ZH,Zs] at m2;have hr:RightV x m:=WD (r:=Jf (k:Int) m) (Up m2.2.2);have e:=m2.1;rw [hr.ord hf] at e
   grind
 ·simp at h4
theorem sP {α β:Type} [Inhabited α] [Inhabited β] {f:α->β} {l:List α} {i:Nat} (h:i<l.length):nth (l.map f) i=f (nth l i):=by
 grind [Zh]
set_option maxHeartbeats 2000000
def Sz (f:Nat->Nat) (z:Int):Int:=if 0<=z then (f z.toNat:Nat) else z
theorem SA {f:Nat->Nat} {z:Int} :0<=Sz f z↔0<=z:=by grind [Sz]
theorem DE {f:Nat->Nat} {a:List Int} {i:Nat} (h:i<a.length):nth (a.map (Sz f)) i=Sz f (nth a i):=sP h
structure Eas (x y:Inst) (l m:List Col) (f:Nat->Nat):Prop where
 len:y.orders.length=x.orders.length
 off: ∀k,k<x.orders.length->(nth y.orders k).off=(nth x.orders k).off
 col: ∀j,j<l.length->f j<m.length/\(nth m (f j)).typ=(nth l j).typ/\(nth m (f j)).set=(nth l j).set/\(nth m (f j)).price<=(nth l j).price
 cnt: ∀j,j<l.length->(nth x.types (nth l j).typ.toNat).count<=(nth y.types (nth l j).typ.toNat).count
 skp: ∀k,k<x.orders.length->(nth x.orders k).off=false->0<=(nth x.orders k).penalty->0<=(nth y.orders k).penalty/\skR y k<=skR x k
section
variable {x y : Inst} {l m : List Col} {f : Nat -> Nat} (h : Eas x y l m f)
include h
theorem R0 {a:List Int} (ha: ∀i,i<a.length->nth a i<l.length) {T:Int} : ∀n,n<=a.length->usdI m (a.map (Sz f)) T n<=usdI l a T n
 | 0,_=>ZB _
 | n+1,hn=>by
  have ih:=R0 ha (T:=T) n Za;rw [usdI,usdI]
  have hp:K9 m (a.map (Sz f)) T n=true->K9 l a T n=true:=by
   unfold K9;rw [DE (show n<a.length by omega)];simp only [ZH,Zs];rintro ⟨h1,h2,h3⟩;have h0:=SA.1 h1;have hj:=h.col (nth a n).toNat (by grind)
   have e:(Sz f (nth a n)).toNat=f (nth a n).toNat:=by simp_all [Sz]
   grind [Ci,DE]
  grind
theorem rD {a:List Int} {j:Nat} (hj:j<l.length):(VN (nth l j).set.toNat a j).map (Sz f)=VN (nth m (f j)).set.toNat (a.map (Sz f)) (f j:Nat):=by
 refine Jc (by simp [VN]) fun i h1 h2=> ?_
 have hi:i<a.length:=by grind [VN]
 rw [<- Zh h1,<- Zh h2,DE (by grind),Xy hi,Xy (by grind),(h.col j hj).2.2.1,DE hi]
 split
 ·rfl
 ·rfl
theorem rC {a:List Int} {j k:Nat} (ha: ∀i,i<a.length->nth a i<l.length) (hj:j<l.length) (hc:Kr x l a j k=true):Kr y m (a.map (Sz f)) (f j) k=true:=by
 obtain ⟨c1,c2,c3,_⟩:=h.col j hj;unfold Kr at hc ⊢;simp only [ZH,Zs,J9] at hc ⊢;obtain ⟨h1,h2,h3⟩:=hc;rw [c2,c3,ZY];refine ⟨h1,?_,fun i hi hb=> ?_⟩
 ·have u:=R0 h ha (T:=(nth l j).typ) a.length (ZB _);have:=h.cnt j hj;omega
 simp_all [DE,Sz,if_neg]
theorem EB : ∀(d:Nat) (a:List Int) (p p':Int),d<=x.orders.length->a.length=x.orders.length->(∀i,i<a.length->nth a i<l.length)->p'<=p-> ∀q∈Ji x l d a p,∃q'∈Ji y m d (a.map (Sz f)) p',q'.2<=q.2
 | 0,a,p,p',_,_,_,hp,q,hq=>by
  simp_all [Ji]
 | d+1,a,p,p',hd,hl,ha,hp,q,hq=>by
  have hk:x.orders.length-(d+1)<x.orders.length:=Za
  rw [Ji] at hq;rw [Ji,h.len,h.off _ hk,DE Za];simp only [SA]
  by_cases c:(nth x.orders (x.orders.length-(d+1))).off=true\/0<=nth a (x.orders.length-(d+1))
  ·rw [if_pos c] at hq ⊢;exact EB d a p p' Za hl ha hp q hq
  ·rw [if_neg c] at hq ⊢;rcases Xi.1 hq with hq | hq
   ·obtain ⟨j,hj,hq⟩:=XU.1 hq;have hj:=ZM.1 hj
    split at hq
    ·rename_i hc;obtain ⟨c1,c2,c3,c4⟩:=h.col j hj
     obtain ⟨q',h1,h2⟩:=EB d (VN (nth l j).set.toNat a j) (p+(nth l j).price) (p'+(nth m (f j)).price) Za (by rw [Uv];exact hl) (fun i hi=>by
      grind [Uv,Xy]) Za q hq
     rw [rD h hj] at h1;refine ⟨q',List.mem_append_left _ (XU.2 ⟨f j,ZM.2 c1,?_⟩),h2⟩;rw [if_pos (rC h ha hj hc)];exact h1
    ·simp at hq
   ·split at hq
    ·rename_i hc;obtain ⟨s1,s2⟩:=h.skp _ hk (by grind) hc;obtain ⟨q',h1,h2⟩:=EB d a (p+skR x (x.orders.length-(d+1))) (p'+skR y (x.orders.length-(d+1))) Za hl ha Za q hq
     grind
    ·simp at hq
end
theorem Ip {l:List Col} : ∀(L:List (List Int×Int)) (b:Chc),(b.found=true->(L.foldl (YR l) b).found=true/\(L.foldl (YR l) b).price<=b.price)/\(∀q∈L,(L.foldl (YR l) b).found=true/\(L.foldl (YR l) b).price<=q.2)/\((L.foldl (YR l) b).found=true->L.foldl (YR l) b=b\/ ∃q∈L,(L.foldl (YR l) b).price=q.2)
 | [],b=>⟨fun h=>⟨h,Int.le_refl _⟩,fun q hq=>by simp at hq,fun _=> .inl rfl⟩
 | q::L,b=>by
  rw [XR];obtain ⟨i1,i2,i3⟩:=Ip (l:=l) L (YR l b q)
  have hf:(YR l b q).found=true/\(YR l b q).price<=q.2/\(b.found=true->(YR l b q).price<=b.price)/\(YR l b q=b\/(YR l b q).price=q.2):=by
   unfold YR
   grind
  obtain ⟨f1,f2,f3,f4⟩:=hf;obtain ⟨g1,g2⟩:=i1 f1;refine ⟨fun hb=>⟨g1,Int.le_trans g2 (f3 hb)⟩,fun q' hq=> ?_,fun hfo=> ?_⟩
  ·grind
  grind
noncomputable def El (x:Inst):List (List Int×Int):=Ji x (XF x) x.orders.length (List.replicate x.orders.length (-1)) 0
theorem AY {x:Inst} (hx:InstOk x) (hn:x.orders.length<=4):(Yx x=24/\Xz x=0/\El x= [])\/(Yx x=0/\(∃q∈El x,Xz x=q.2)/\ ∀q∈El x,Xz x<=q.2):=by
 obtain ⟨hl,_⟩:=Ey hn (vC hx);have hr:=H9 hx hn;obtain ⟨u1,u2,u3⟩:=Ip (l:=XF x) (El x) zCh;have ea:Ei x (XF x)=(El x).foldl (YR (XF x)) zCh:=rfl;rw [<- ea] at u1 u2 u3;obtain ⟨b,hb,h1,h2⟩:=L4 x;rcases hb with ⟨k1,_⟩ | ⟨_,⟨c,kc,k2⟩,_⟩ | ⟨_,_,k3⟩
 ·omega
 ·grind
 ·rcases k3 with ⟨k4,rfl,k5⟩ | ⟨k4,rfl,k5⟩
  ·refine .inl ⟨k5,(h1 Za).2,?_⟩
   cases hc:El x with
   | nil=>rfl
   | cons q L =>
    grind
  ·have e:=(h2 k5).1;have e:Xz x=(Ei x (XF x)).price:=e;refine .inr ⟨k5,?_,fun q hq=>by grind⟩;rcases u3 k4 with g | ⟨q,hq,g⟩
   ·rw [g] at k4;cases k4
   grind
theorem uK {x y:Inst} {f:Nat->Nat} (hx:InstOk x) (hy:InstOk y) (hn:x.orders.length<=4) (h:Eas x y (XF x) (XF y) f) (h0:Yx x=0):Yx y=0/\Xz y<=Xz x:=by
 rcases AY hx hn with ⟨g,_⟩ | ⟨_,⟨q,hq,e⟩,_⟩
 ·omega
 ·obtain ⟨q',h1,h2⟩:=EB h x.orders.length (List.replicate x.orders.length (-1)) 0 0 (ZB _) Zb (fun i hi=>by
   grind [EO]) (Int.le_refl _) q hq
  have em:(List.replicate x.orders.length (-1:Int)).map (Sz f)=List.replicate y.orders.length (-1):=by
   rw [Av,h.len];rfl
  rw [em] at h1
  have h1:q'∈El y:=by simp_all [El]
  rcases AY hy (by simp_all) with ⟨_,_,g⟩ | ⟨g,_,g2⟩
  ·grind
  grind
theorem QQ {x:Inst} (hx:InstOk x) (hn:x.orders.length<=4):Yx x=0\/Yx x=24:=by
 grind [AY]
theorem qX {x y:Inst} (hx:InstOk x) (hy:InstOk y) (ht:y.types.length=x.types.length) (hp: ∀(k:Nat) (m:List Vis),k<x.types.length->(YL x (Jf k m)).2=0->(YL y (Jf k m)).2=0/\(YL y (Jf k m)).1<=(YL x (Jf k m)).1) :
  ∃f:Nat->Nat,∀j,j<(XF x).length->(∃k:Nat,k<x.types.length/\(nth (XF x) j).typ=(k:Int))/\f j<(XF y).length/\(nth (XF y) (f j)).typ=(nth (XF x) j).typ/\(nth (XF y) (f j)).set=(nth (XF x) j).set/\(nth (XF y) (f j)).price<=(nth (XF x) j).price:=by
 have H: ∀j,j<(XF x).length-> ∃i,(∃k:Nat,k<x.types.length/\(nth (XF x) j).typ=(k:Int))/\i<(XF y).length/\(nth (XF y) i).typ=(nth (XF x) j).typ/\(nth (XF y) i).set=(nth (XF x) j).set/\(nth (XF y) i).price<=(nth (XF x) j).price:=fun j hj=>by
  obtain ⟨k,m,h1,h2,h3⟩:=Fa hx (Zt hj);have h4:(YL x (Jf (k:Int) m)).2=0:=Ay h2;obtain ⟨h5,h6⟩:=hp k m h1 h4;obtain ⟨i,i1,i2,i3,i4⟩:=gZ hy h5 ⟨by show (0:Int)<=(k:Int);omega,by show (k:Int)<_;omega⟩ rfl rfl;rw [h3];exact ⟨i,⟨k,h1,rfl⟩,i1,i2,i3,Int.le_trans i4 h6⟩
 classical
 exact ⟨fun j=>if g:j<(XF x).length then Classical.choose (H j g) else 0,fun j g=>by
  grind⟩
theorem Nt {x:Inst} {l:List Col} (h: ∀k,k<x.orders.length->(nth x.orders k).off=false->0<=(nth x.orders k).penalty): ∀(d:Nat) (a:List Int) (p:Int),d<=x.orders.length->Ji x l d a p≠ []
 | 0,a,p,_=>by simp [Ji]
 | d+1,a,p,hd=>by
  rw [Ji]
  split
  ·exact Nt h d a p Za
  ·rename_i c;have:=h (x.orders.length-(d+1)) Za (by grind);rw [if_pos this];intro e;exact Nt h d a _ Za (V3.1 e).2
theorem EM {x:Inst} {l:List Col} (hl: ∀j,j<l.length->0<=(nth l j).price/\(nth l j).price<=18014398509481984) (hs: ∀k,k<x.orders.length->(nth x.orders k).off=false->0<=(nth x.orders k).penalty->0<=skR x k/\skR x k<=18014398509481984) :
  ∀(d:Nat) (a:List Int) (p:Int),d<=x.orders.length-> ∀q∈Ji x l d a p,p<=q.2/\q.2<=p+(d:Nat)*18014398509481984
 | 0,a,p,_,q,hq=>by
  simp_all [Ji]
 | d+1,a,p,hd,q,hq=>by
  have hk:x.orders.length-(d+1)<x.orders.length:=Za
  rw [Ji] at hq
  split at hq
  ·have:=EM hl hs d a p Za q hq;omega
  ·rename_i c;rcases Xi.1 hq with hq | hq
   ·obtain ⟨j,hj,hq⟩:=XU.1 hq
    split at hq
    ·have h1:=hl j (ZM.1 hj);have:=EM hl hs d _ _ Za q hq;omega
    ·simp at hq
   ·split at hq
    ·rename_i hc;have h1:=hs _ hk (by grind) hc;have:=EM hl hs d _ _ Za q hq;omega
    ·simp at hq
theorem QR {x:Inst} (hx:InstOk x) (hn:x.orders.length<=4):0<=Xz x/\Xz x<=72057594037927936:=by
 rcases AY hx hn with ⟨_,g,_⟩ | ⟨_,⟨q,hq,e⟩,_⟩
 ·omega
 ·have hr:=H9 hx hn
  have:=EM (x:=x) (l:=XF x) (fun j hj=>by
   simp_all [Zt,rightB]) (Oh hx).1 x.orders.length _ 0 (ZB _) q hq
  omega
theorem WO {x:Inst} {l:List Itm} :(Zm x l).orders.length=x.orders.length/\(Zm x l).types.length=x.types.length:=⟨WT _ _,Vr _ _⟩
theorem uI {x y:Inst} {k:Nat} (hl:y.orders.length=x.orders.length) (ho:(nth y.orders k).off=(nth x.orders k).off) (hw:(nth y.orders k).now=(nth x.orders k).now) (hp:(nth y.orders k).penalty=(nth x.orders k).penalty):skR y k=skR x k:=by
 grind [skR,unsF]
theorem nJ {x:Inst} {l:List Itm} (hx:InstOk x) (hn:x.orders.length<=4) (hI: ∀v∈l,XN x v=true) (h:Yx x=0):Yx (Zm x l)=0/\Xz (Zm x l)<=Xz x:=by
 have hy:=V9 hx hI;obtain ⟨ol,tl⟩:=WO (x:=x) (l:=l);have on: ∀i,i<x.orders.length->nth (Zm x l).orders i=VU (nth x.orders i) i l:=fun i h=>Z6 h;have tn: ∀i,i<x.types.length->nth (Zm x l).types i=Va (nth x.types i) i l:=fun i h=>Wl h;obtain ⟨f,hf⟩:=qX hx hy tl fun k m _ he=>PX hx hy hI he;refine uK hx hy hn (f:=f) ⟨ol,fun k hk=>by rw [on k hk];rfl,fun j hj=>(hf j hj).2,fun j hj=> ?_,fun k hk ho hp=> ?_⟩ h
 ·obtain ⟨⟨k,hk,e⟩,_⟩:=hf j hj;have hc:=hx.types.2 k hk;unfold Ux at hc;have hc:=hc.1.1.1.1.1.1.2;rw [C0] at hc;rw [e,XY,tn k hk];simp only [Va];omega
 ·have hn10:(⟨10,((k:Nat):Int)⟩:Itm) ∉ l:=fun hm=>by
   grind [FK,CP]
  have e1:(nth (Zm x l).orders k).penalty=(nth x.orders k).penalty:=by simp_all [VU]
  refine ⟨Za,?_⟩;rw [uI ol (by rw [on k hk];rfl) (by rw [on k hk];rfl) e1];omega
theorem Ef (x:Inst):(YM x 10).Nodup:=(KX x 10).imp fun {a b} h e=>by
 subst e;rw [YJ] at h;omega
theorem Fy {x:Inst} {v:Itm} :VT x [v]=if XN x v=true then 0 else 7:=by
 cases h:XN x v with
 | true=>rw [if_pos rfl];exact Fx.2 ⟨fun w hw=>by simp only [Z3,Y7,Wq] at hw;subst hw;exact h,Zb⟩
 | false =>
  rw [if_neg Zb]
  have e0:WC x [v] 0=7:=by rw [WC,show nth [v] 0=v from rfl,h];rfl
  rw [Aj (k:=0) Zb (fun j hj=>Za) (by rw [e0];decide),e0]
noncomputable def Ki (x:Inst) (l:List Itm):Int:=if VT x l≠0 then VT x l else if Yx x≠0 then Yx x else Yx (Zm x l)
noncomputable def BQ (x:Inst) (l:List Itm):Int:=if Ki x l=0 then Xz x-Xz (Zm x l) else 0
structure Wth where
 it:Itm
 pr:Int
 deriving DecidableEq
instance : Inhabited Wth := ⟨⟨⟨0, 0⟩, 0⟩⟩
def eWth (w:Wth):PV:= .agg [.int .i64 w.it.kind,.int .i64 w.it.a,.int .i64 w.pr]
@[go_sem] theorem RZ (w:Wth):eWth w= .agg [.int .i64 w.it.kind,.int .i64 w.it.a,.int .i64 w.pr]:=Zk rfl rfl
noncomputable def BT (x:Inst) (v:Itm):Wth:=⟨v,Xz x-Xz (Zm x [v])⟩
noncomputable def D2 (x:Inst):List Wth:=(YM x 10).map (BT x)
def aheW (a b:Wth):Prop:=b.pr<a.pr\/(a.pr=b.pr/\Qf a.it b.it<0)
instance (a b : Wth) : Decidable (aheW a b) := by unfold aheW; infer_instance
theorem Tt (a b:Wth) (h:aheW a b): ¬aheW b a:=by
 unfold aheW at *
 rw [YJ] at *;omega
theorem Mo {a b:Wth} (h:a.it≠b.it):aheW a b\/aheW b a:=by
 unfold aheW;rw [YJ,YJ];have: ¬(a.it.kind=b.it.kind/\a.it.a=b.it.a):=fun e=>h (JU.2 e);omega
theorem OT {a b c:Wth} (h1:aheW a b) (h2:aheW b c):aheW a c:=by
 unfold aheW at *
 rw [YJ] at *;omega
def dZ (ws l:List Wth):Prop:=l.Perm ws/\l.Pairwise aheW
theorem Ia {ws l m:List Wth} (h1:dZ ws l) (h2:dZ ws m):l=m :=
 K2 Tt h1.2 h2.2 fun v=>by rw [h1.1.mem_iff,h2.1.mem_iff]
noncomputable def MH (x:Inst):List Itm:=(YM x 10).filter fun v=>decide (0<Xz x-Xz (Zm x [v]))
theorem S6 {x:Inst} (hx:InstOk x) (hn:x.orders.length<=4) (h0:Yx x=0) {v:Itm} (hv:XN x v=true):Yx (Zm x [v])=0/\Xz (Zm x [v])<=Xz x :=
 nJ hx hn (fun w hw=>by simp only [Z3,Y7,Wq] at hw;subst hw;exact hv) h0
set_option maxRecDepth 60000
set_option maxHeartbeats 8000000
def ZhS : Typ:= { name:= [118],count:=1,src:=0,dst:=0,cap_c:=false,cap:= [5],cls:=9,drive:=9,opn:=0,rest:=0,skills:=0,fixed:=3,perMile:=0,perTick:=0,prof:=0 }
def ZhR : Ord:= { name:= [111],load_c:=false,load:= [1],pick:=⟨-1,0,0,0⟩,drp:=⟨0,0,9,0⟩,skills:=1,penalty:=7,split:=1,last:= -1,now:= -1,off:=false }
def excX : Inst:= { net:= { places_c:=false,places:= [[97]],arcs_c:=true,arcs:= [] },types_c:=false,types:= [ZhS],orders_c:=false,orders:= [ZhR],apart_c:=true,apart:= [],before_c:=true,before:= [] }
theorem Hu : InstOk excX:=by
 refine ⟨⟨⟨⟨by decide,fun i hi=> ?_⟩,by decide⟩,fun i hi=> ?_⟩,⟨rfl,fun i hi=> ?_⟩,Ec.1 (by rfl),rfl⟩
 ·match i,hi with
  | 0,_=>exact ⟨rfl,fun k hk=>Za⟩
 ·exact absurd hi (by simp [excX])
 ·have:i=0:=by simp [excX] at hi;omega
  subst this;exact ⟨⟨⟨⟨⟨⟨⟨⟨rfl,fun j hj=>Za⟩,rfl⟩,rfl,rfl⟩,rfl⟩,rfl⟩,rfl,by decide⟩,rfl,rfl⟩,rfl,rfl,rfl,rfl⟩
theorem T5 : YM excX 10= [⟨2,0⟩,⟨3,0⟩,⟨4,0⟩,⟨7,0⟩,⟨8,0⟩,⟨9,0⟩]:=by decide+kernel
theorem Rb {x:Inst} {r:Rte} (h:XW x r=0): ∀v∈r.visits,Yk (ZE x r) (nth x.orders v.order.toNat).skills=true:=fun v hv=>by
 cases hb:Yk (ZE x r) (nth x.orders v.order.toNat).skills with
 | true=>rfl
 | false =>
  exfalso;have ha:(r.visits.any fun v=> !Yk (ZE x r) (nth x.orders v.order.toNat).skills)=true:=WH.2 ⟨v,hv,by rw [hb];rfl⟩;unfold XW at h
  split at h
  ·simp at h
  ·split at h
   ·rename_i h1;exact h1 h
   ·first
    | (rw [if_pos ha] at h;simp at h)
    | simp at h
theorem NK {y:Inst} (hy:InstOk y) (l1:y.orders.length=1) (l2:y.types.length=1) (hs:(nth y.orders 0).skills=1) (ht:(nth y.types 0).skills=0) (hf:(nth y.orders 0).off=false) (hp:0<=(nth y.orders 0).penalty):Yx y=0/\Xz y=skR y 0:=by
 have hno:XF y= []:=by
  rw [List.eq_nil_iff_forall_not_mem];intro c hc;obtain ⟨k,m,g1,g2,_⟩:=Fa hy hc;have he:=Up g2;have hr:=WD he;have hru:=Uj he
  obtain ⟨v,hv⟩: ∃v,v∈m:=by
   cases m with
   | nil=>exact absurd rfl hr.ne
   | cons v m=>exact ⟨v,Zb⟩
  have hi:=hr.inr v hv;have hab:=Rb hru v hv
  have ek:k=0:=Za
  subst ek
  have ev0:v.order.toNat=0:=Za
  rw [ev0,hs] at hab;have hab:Yk (nth y.types 0) 1=true:=hab;simp only [Yk,ht,ZH,ZA,ZM] at hab;have:=hab.2 0 Za;simp at this
 have n0:nth [(-1:Int)] 0= -1:=rfl
 have hc:El y= [([-1],skR y 0)]:=by
  unfold El;rw [hno,l1];simp [Ji,l1,hf,hp,n0]
 rcases AY hy Za with ⟨_,_,g⟩ | ⟨g,⟨q,hq,e⟩,_⟩
 ·rw [hc] at g;cases g
 ·rw [hc] at hq;simp only [Z3,Y7,Wq] at hq;subst hq;exact ⟨g,e⟩
theorem Pp {y:Inst} (h1:y.orders.length=1) (h2:(nth y.orders 0).off=false) (h3:(nth y.orders 0).penalty=7) (h4:(nth y.orders 0).now= -1):skR y 0=117440512:=by
 unfold skR unsF;rw [h1];simp [h2,h3,h4,YA]
theorem Fz : Yx excX=0/\Xz excX=117440512:=by
 obtain ⟨h1,h2⟩:=NK Hu rfl rfl rfl rfl rfl (by decide);exact ⟨h1,by rw [h2];exact Pp rfl rfl rfl rfl⟩
theorem R2 (w:Itm) (hw:XN excX w=true): ∀v∈ [w],XN excX v=true:=fun v hv=>by
 simp only [Z3,Y7,Wq] at hv;subst hv;exact hw
theorem iJ {v:Itm} (h:XN excX v=true) (h4:v≠⟨4,0⟩):Xz (Zm excX [v])=117440512:=by
 have hy:=V9 Hu (R2 v h);have eo:nth (Zm excX [v]).orders 0=VU ZhR (0:Nat) [v]:=Z6 (by decide);have et:nth (Zm excX [v]).types 0=Va ZhS (0:Nat) [v]:=Wl (by decide)
 have n4:(⟨4,((0:Nat):Int)⟩:Itm) ∉ [v]:=fun hm=>by
  simp only [Z3,Y7,Wq] at hm;exact h4 hm.symm
 have n10:(⟨10,((0:Nat):Int)⟩:Itm) ∉ [v]:=fun hm=>by
  simp only [Z3,Y7,Wq] at hm;rw [<- hm] at h;exact absurd h (by decide+kernel)
 have hp:(nth (Zm excX [v]).orders 0).penalty=7:=by rw [eo];simp only [VU,if_neg n10];rfl
 obtain ⟨_,h2⟩:=NK hy WO.1 WO.2 (by rw [eo];simp only [VU,if_neg n4];rfl) (by rw [et];rfl) (by rw [eo];rfl) (by rw [hp];decide);rw [h2];exact Pp WO.1 (by rw [eo];rfl) hp (by rw [eo];rfl)
theorem MV : Xz (Zm excX [⟨4,0⟩])=50331648:=by
 have hy:=V9 Hu (R2 ⟨4,0⟩ (by decide+kernel));obtain ⟨y,hY⟩: ∃y,y=Zm excX [⟨4,0⟩]:=⟨_,rfl⟩;rw [<- hY] at hy ⊢
 have l1:y.orders.length=1:=by rw [hY];rfl
 have l2:y.types.length=1:=by rw [hY];rfl
 have hpr:(YL y ⟨0,0,true,[],false,[⟨0,true⟩]⟩)=(50331648,0):=by rw [hY];kernel_rfl
 have hp:(nth y.orders 0).penalty=7/\(nth y.orders 0).off=false/\(nth y.types 0).count=1/\(nth y.orders 0).now= -1:=by rw [hY];exact ⟨Ze,Ze,Ze,Ze⟩
 have ht:(nth y.types 0).fixed=3/\(nth y.types 0).perMile=0/\(nth y.types 0).perTick=0:=by rw [hY];exact ⟨Ze,Ze,Ze⟩
 have hsk:=Pp l1 hp.2.1 hp.1 hp.2.2.2;have n0:nth [(-1:Int)] 0= -1:=rfl
 -- no column is cheaper
 have hcol: ∀j,j<(XF y).length->50331648<=(nth (XF y) j).price:=fun j hj=>by
  obtain ⟨k,m,g1,g2,g3⟩:=Fa hy (Zt hj);have he:=Up g2
  have ek:k=0:=Za
  subst ek;obtain ⟨p1,p2,p3,p4,p5⟩:=Bu hy he;rw [g3]
  show 50331648<=(YL y (Jf ((0:Nat):Int) m)).1
  have g2:(YL y (Jf ((0:Nat):Int) m)).2=0:=Ay g2;rw [YL,if_pos he] at g2 ⊢
  have hco:(Wg y (Jf ((0:Nat):Int) m)).cost=3:=by
   rw [Wg,if_pos he]
   show (nth y.types 0).fixed+(nth y.types 0).perMile*_+(nth y.types 0).perTick*_=3
   rw [ht.1,ht.2.1,ht.2.2];simp
  unfold bN at p1;unfold YA at g2 ⊢
  split at g2
  ·cases g2
  ·split at g2
   ·cases g2
   ·rename_i c1 c2;rw [if_neg c1,if_neg c2];simp only;omega
 obtain ⟨j,j1,j2,j3,j4⟩:=gZ hy (r:=⟨0,0,true,[],false,[⟨0,true⟩]⟩) (by rw [hpr]) ⟨by decide,by rw [l2];decide⟩ rfl rfl;have j3:(nth (XF y) j).set=1:=j3;have j2:(nth (XF y) j).typ=0:=j2;rw [hpr] at j4
 have hch: ∀q,q∈El y↔(∃i,i<(XF y).length/\Kr y (XF y) [-1] i 0=true/\q=(VN (nth (XF y) i).set.toNat [-1] i,(nth (XF y) i).price))\/q=([-1],117440512):=fun q=>by
  unfold El;rw [l1];simp only [Ji,l1,hp.1,hp.2.1,Nat.reduceAdd,AI,List.replicate_one,n0];rw [if_neg Zb,if_pos (by decide),hsk];simp only [Xi,XU,ZM,Z3,Y7,Wq,Int.zero_add];refine or_congr ⟨?_,?_⟩ Iff.rfl
  ·rintro ⟨i,h1,h2⟩
   split at h2
   ·rename_i h3;simp only [Z3,Y7,Wq] at h2;exact ⟨i,h1,h3,h2⟩
   ·simp at h2
  ·rintro ⟨i,h1,h3,rfl⟩;exact ⟨i,h1,by rw [if_pos h3];simp⟩
 have hc:Kr y (XF y) [-1] j 0=true:=by
  unfold Kr;rw [j2,j3,show ((0:Int).toNat)=0 from rfl,hp.2.2.1]
  rfl
 rcases AY hy Za with ⟨_,_,g⟩ | ⟨_,⟨q,hq,e⟩,g⟩
 ·have:=(hch ([-1],117440512)).2 (.inr rfl);rw [g] at this;simp at this
 ·have h1:=g _ ((hch _).2 (.inl ⟨j,j1,hc,rfl⟩));simp only at h1;rcases (hch q).1 hq with ⟨i,i1,_,rfl⟩ | rfl
  ·have:=hcol i i1;simp only at e;omega
  ·simp only at e;omega
theorem rF : MH excX= [⟨4,0⟩]:=by
 unfold MH;rw [T5];have r:=fun v (h:XN excX v=true) (h4:v≠⟨4,0⟩)=>iJ h h4;have e:=Fz.2;simp only [CF,List.filter_nil,e,MV,r ⟨2,0⟩ (by decide+kernel) (by decide),r ⟨3,0⟩ (by decide+kernel) (by decide),r ⟨7,0⟩ (by decide+kernel) (by decide),r ⟨8,0⟩ (by decide+kernel) (by decide),r ⟨9,0⟩ (by decide+kernel) (by decide)]
 rfl
theorem rG : Ki excX [⟨4,0⟩]=0/\BQ excX [⟨4,0⟩]=67108864:=by
 have h1:VT excX [⟨4,0⟩]=0:=by rw [Fy,if_pos (by decide+kernel)]
 obtain ⟨h2,h3⟩:=Fz;have h4:=(S6 Hu (by decide) h2 (v:=⟨4,0⟩) (by decide+kernel)).1
 have e:Ki excX [⟨4,0⟩]=0:=by rw [Ki,if_neg Za,if_neg Za];exact h4
 refine ⟨e,?_⟩;rw [BQ,if_pos e,h3,MV];decide
theorem Zj5 (x:Inst) (hx:InstOk x) (hn:x.orders.length<=4):ACalls Tryz.prog 47 [.p (Zv x)] [] fun y H'=> ∃p c e,(c=Xz x/\e=Yx x)/\y= .tup [.p (JO p),.p (.int .i64 c),.p (.int .i64 e)]/\H'= []:=by
 have hs:=Ua hx;refine (nK x hx hn (by have:=hs.be;omega) (by have:=hs.ap;omega)).mono fun y H' h=> ?_
 grind
theorem SZ (x:Inst) (hx:InstOk x) (hn:x.orders.length<=4):ACalls Tryz.prog 12 [.p (Zv x)] [] fun y H'=> ∃p c e,(c=Xz x/\e=Yx x)/\y= .tup [.p (JO p),.p (.int .i64 c),.p (.int .i64 e)]/\H'= []:=by
 have hs:=Ua hx;refine (nL x hx hn (by have:=hs.be;omega)).mono fun y H' h=> ?_
 grind
theorem AX (x:Inst) (hx:InstOk x) (hn:x.orders.length<=4):PT 23 [.p (Zv x)] [.p (.int .i64 (Xz x)),.p (.int .i64 (Yx x))]:=by
 have c1:=Zj5 x hx hn;generalize Yx x=e at c1;generalize Xz x=c at c1;refine Zf [] Tryz.func23 rfl Zim ?_;simp (disch:=omega) only [Tryz.f23,go_sem,seval];refine BS c1 fun p c' e' hR=> ?_;obtain ⟨rfl,rfl⟩:=hR;simp (disch:=omega) only [go_sem,seval];exact we
noncomputable def Ev (x:Inst) (l:List Itm):Int:=if VT x l≠0 then VT x l else Yx (Zm x l)
noncomputable def LX (x:Inst) (l:List Itm) (full:Int):Int:=if Ev x l=0 then full-Xz (Zm x l) else 0
theorem DV (x:Inst) (hx:InstOk x) (hn:x.orders.length<=4) (l:List Itm) (c:Bool) (hl:l.length<=1048576) (full:Int) (hf:0<=full/\full<=72057594037927936):PT 24 [.p (Zv x),.p (.list c (l.map Yb)),.p (.int .i64 full)] [.p (.int .i64 (LX x l full)),.p (.int .i64 (Ev x l))]:=by
 have hs:=Ua hx;have c1:=tW x hs (Nk hx) l c hl;refine Zf [] Tryz.func24 rfl Zin ?_;simp (disch:=omega) only [Tryz.f24,go_sem,seval];refine W3 c1 ?_;simp (disch:=omega) only [go_sem,seval]
 by_cases e0:VT x l=0
 ·have hI:=(Fx.1 e0).1;have hy:=V9 hx hI
  have hyn:(Zm x l).orders.length<=4:=by rw [WO.1];exact hn
  have c2:=AX _ hy hyn;have he:=QQ hy hyn;have hr:=QR hy hyn
  have v1:Ku x l=Zm x l:=by rw [Ku,if_pos e0]
  have v2:Ev x l=Yx (Zm x l):=by rw [Ev,if_neg Za]
  rw [LX,v1,v2,e0];generalize Zm x l=Y at c2 he hr;generalize Yx Y=e at c2 he;generalize Xz Y=b at c2 hr;simp (disch:=omega) only [go_sem,seval];refine W3 c2 ?_;rcases he with rfl | rfl
  ·simp (disch:=omega) only [go_sem,seval];exact we
  ·simp (disch:=omega) only [go_sem,seval];exact we
 ·have v2:Ev x l=VT x l:=by rw [Ev,if_pos e0]
  have v3:LX x l full=0:=by rw [LX,v2,if_neg e0]
  rw [v2,v3];refine cD ?_ ?_<;>intro h1<;>simp (disch:=omega) only [Sh.out h1,go_sem,seval]
  ·exact we
  ·exact absurd (Z5.1 h1) e0
theorem S7 {x:Inst} {l:List Itm} (h0:VT x l=0) (h1:Yx x=0):Ki x l=Ev x l/\BQ x l=LX x l (Xz x):=by
 have e:Ki x l=Ev x l:=by rw [Ki,Ev,if_neg Za,if_neg Za,if_neg Za]
 exact ⟨e,by rw [BQ,LX,e]⟩
theorem Zdq (x:Inst) (hx:InstOk x) (hn:x.orders.length<=4) (v:Itm):PT 10 [.p (Zv x),.p (Yb v)] [.p (.int .i64 (BQ x [v])),.p (.int .i64 (Ki x [v]))]:=by
 have c1:=sA x (Ua hx) v;have c2:=AX x hx hn;have c3:=DV x hx hn [v] false Zb (Xz x) (QR hx hn);have he:=QQ hx hn;have e1:=Fy (x:=x) (v:=v);refine Zf [6] Tryz.func10 rfl Zib ?_;simp (disch:=omega) only [Tryz.f10,go_sem,seval];refine (c1).use ?_;simp (disch:=omega) only [go_sem,seval]
 cases hv:XN x v with
 | false =>
  rw [hv] at e1
  have v1:Ki x [v]=7:=by rw [Ki,if_pos (by rw [e1];decide),e1];rfl
  have v2:BQ x [v]=0:=by rw [BQ,v1];rfl
  rw [v1,v2];simp (disch:=omega) only [Vj,go_sem,seval];exact we
 | true =>
  rw [hv] at e1;have e1:VT x [v]=0:=e1;simp (disch:=omega) only [YD,go_sem,seval];refine W3 c2 ?_;rcases he with h | h
  ·obtain ⟨v1,v2⟩:=S7 e1 h;rw [v1,v2,h];simp (disch:=omega) only [go_sem,seval];refine YI (Ag 3 ?_);simp (disch:=omega) only [go_sem,seval];refine ⟨_,_,Weak.fz (o:=2) (by rfl),?_⟩;simp (disch:=omega) only [Zq,Zn,Z1,ZW,ZL,Zz,go_sem,seval];refine W3 c3 ?_;simp (disch:=omega) only [go_sem,seval]
   try refine Zg [] _ _ _ _ ?_
   try simp (disch:=omega) only [go_sem,seval]
   exact we
  ·have v1:Ki x [v]=24:=by rw [Ki,if_neg Za,if_pos Za,h]
   have v2:BQ x [v]=0:=by rw [BQ,v1];rfl
   rw [v1,v2,h];simp (disch:=omega) only [go_sem,seval];exact we
theorem Zdh (x:Inst) (hx:InstOk x) (hn:x.orders.length<=4) (l:List Itm) (c:Bool) (hl:l.length<=1048576):PT 16 [.p (Zv x),.p (.list c (l.map Yb))] [.p (.int .i64 (BQ x l)),.p (.int .i64 (Ki x l))]:=by
 have c1:=LV x (Ua hx) (Nk hx) l c hl;have c2:=SZ x hx hn;have he:=QQ hx hn;have hr:=QR hx hn;refine Zf [] Tryz.func16 rfl Zif ?_;simp (disch:=omega) only [Tryz.f16,go_sem,seval];refine W3 c1 ?_;simp (disch:=omega) only [go_sem,seval]
 by_cases e0:VT x l=0
 ·have hI:=(Fx.1 e0).1;have hy:=V9 hx hI
  have hyn:(Zm x l).orders.length<=4:=by rw [WO.1];exact hn
  have c3:=SZ _ hy hyn;have he2:=QQ hy hyn;have hr2:=QR hy hyn
  have v1:Ku x l=Zm x l:=by rw [Ku,if_pos e0]
  have v2:Ki x l=if Yx x≠0 then Yx x else Yx (Zm x l):=by rw [Ki,if_neg Za]
  rw [BQ,v1,v2,e0];generalize Zm x l=Y at c3 he2 hr2;generalize Yx x=e at c2 he;generalize Xz x=a at c2 hr;generalize Yx Y=f at c3 he2;generalize Xz Y=b at c3 hr2;simp (disch:=omega) only [go_sem,seval];refine BS c2 fun p c' e' hR=> ?_;obtain ⟨rfl,rfl⟩:=hR;rcases he with rfl | rfl
  ·simp (disch:=omega) only [go_sem,seval];refine BS c3 fun p c' e' hR=> ?_;obtain ⟨rfl,rfl⟩:=hR;rcases he2 with rfl | rfl
   ·simp (disch:=omega) only [go_sem,seval];exact we
   ·simp (disch:=omega) only [go_sem,seval];exact we
  ·simp (disch:=omega) only [go_sem,seval];exact we
 ·have v1:Ki x l=VT x l:=by rw [Ki,if_pos e0]
  have v2:BQ x l=0:=by rw [BQ,v1,if_neg e0]
  rw [v1,v2];refine cD ?_ ?_<;>intro h1<;>simp (disch:=omega) only [Sh.out h1,go_sem,seval]
  ·exact we
  ·exact absurd (Z5.1 h1) e0
theorem xE (x:Inst) (hx:InstOk x) (hn:x.orders.length<=4) (v:Itm):PT 14 [.p (Zv x),.p (Yb v)] [.p (.int .i64 (BQ x [v])),.p (.int .i64 (Ki x [v]))]:=by
 have c1:=Zdh x hx hn [v] false Zb;refine Zf [1] Tryz.func14 rfl Zie ?_;simp (disch:=omega) only [Tryz.f14,go_sem,seval];refine YI (Ag 3 ?_);simp (disch:=omega) only [go_sem,seval];refine ⟨_,_,Weak.fz (o:=2) (by rfl),?_⟩;simp (disch:=omega) only [Zq,Zn,Z1,ZW,ZL,Zz,go_sem,seval];refine W3 c1 ?_;simp (disch:=omega) only [go_sem,seval]
 try refine Zg [] _ _ _ _ ?_
 try simp (disch:=omega) only [go_sem,seval]
 exact we
theorem I9 {α:Type} [Inhabited α] {p:α->Bool} {l:List α} {k:Nat} (h:k<l.length):(l.take (k+1)).filter p=(l.take k).filter p++if p (nth l k)=true then [nth l k] else []:=by
 rw [X0 h,List.filter_append,<- Zh h]
 congr 1
 rw [CF]
 split<;>simp
noncomputable def Kz (x:Inst):List Itm:=if Yx x=0 then MH x else []
theorem C7 {x:Inst} (hx:InstOk x) (hn:x.orders.length<=4) (h0:Yx x=0) {v:Itm} (hv:XN x v=true):Ev x [v]=0/\LX x [v] (Xz x)=Xz x-Xz (Zm x [v])/\Ki x [v]=0/\BQ x [v]=Xz x-Xz (Zm x [v])/\0<=Xz x-Xz (Zm x [v])/\Xz x-Xz (Zm x [v])<=72057594037927936:=by
 have e1:VT x [v]=0:=by rw [Fy,if_pos hv]
 obtain ⟨h1,h2⟩:=S6 hx hn h0 hv
 have e2:Ev x [v]=0:=by rw [Ev,if_neg Za];exact h1
 obtain ⟨t1,t2⟩:=S7 e1 h0
 have e3:LX x [v] (Xz x)=Xz x-Xz (Zm x [v]):=by rw [LX,if_pos e2]
 have r1:=QR hx hn;have hy:=V9 hx (l:= [v]) (fun w hw=>by simp only [Z3,Y7,Wq] at hw;subst hw;exact hv);have r2:=QR hy (by rw [WO.1];exact hn);exact ⟨e2,e3,by rw [t1,e2],by rw [t2,e3],Za,Za⟩
theorem Of (x:Inst) (hx:InstOk x) (hn:x.orders.length<=4):PT 19 [.p (Zv x)] [.p (.list (decide (Yx x≠0)) ((Kz x).map Yb)),.p (.int .i64 (Yx x))]:=by
 have hs:=Ua hx;have hrl:=Uu hs;have c1:=AX x hx hn;have c2:=Lp x hs;have he:=QQ hx hn;refine Zf [5,14] Tryz.func19 rfl Zii ?_;simp (disch:=omega) only [Tryz.f19,go_sem,seval];refine W3 c1 ?_;rcases he with h0 | h0
 ·have c3:=fun v (hv:XN x v=true)=>DV x hx hn [v] false Zb (Xz x) (QR hx hn);have hsv:=fun v (hv:XN x v=true)=>C7 hx hn h0 hv
  have hv1:Kz x=MH x:=by rw [Kz,if_pos h0]
  have hbl:MH x=(YM x 10).filter fun v=>decide (0<Xz x-Xz (Zm x [v])):=rfl;have hhas: ∀k,k<(YM x 10).length->XN x (nth (YM x 10) k)=true:=fun k hk=>W8.1 (Zt hk);rw [hv1,hbl,h0];generalize YM x 10=R at c2 hrl hhas;simp (disch:=omega) only [go_sem,seval];refine Zp (Weak.ofNil 6 2 (by simp (disch:=omega) only [go_sem,seval]) Zb (Weak.refl _ _ _)) ?_;refine Zg [8,14] _ _ _ _ ?_;simp (disch:=omega) only [go_sem,seval];refine (c2).use ?_;simp (disch:=omega) only [go_sem,seval];refine Z0 [8,14] [1,4,20,21] (fun q:Nat×List Itm=> [(6,.sl 1 0 q.2.length q.2.length),(22,.p (.int .i64 q.1))]) (fun q=> [Zi x,.elems 2 (q.2.map Yb)]) (fun q=>q.1<=R.length/\q.2=(R.take q.1).filter fun v=>decide (0<Xz x-Xz (Zm x [v]))) (fun q=>R.length-q.1) (0,[]) ⟨Zb,Zb⟩ (Weak.mk ?_) ?_
  ·simp (disch:=omega) only [Zi,go_sem,seval]
  ·rintro ⟨k,m⟩ ⟨hk,hm⟩;simp only at hk hm
   have hml:m.length<=k:=by
    have h1:=CA (fun v=>decide (0<Xz x-Xz (Zm x [v]))) (R.take k);rw [<- hm,Xh] at h1;omega
   simp (disch:=omega) only [Zi,go_sem,seval];refine cD ?_ ?_<;>intro h1<;>simp (disch:=omega) only [Sh.out h1,go_sem,seval]
   ·have hk2:k<R.length:=Za
    have hsu:=I9 (p:=fun v=>decide (0<Xz x-Xz (Zm x [v]))) hk2;have hv:=hhas k hk2;have d1:=c3 _ hv;obtain ⟨e2,e3,_,_,e6,e7⟩:=hsv _ hv;rw [e2,e3] at d1;refine YI (Ag 3 ?_);simp (disch:=omega) only [Zi,go_sem,seval];refine ⟨_,_,Weak.fz (o:=3) (by rfl),?_⟩;simp (disch:=omega) only [Zq,Zn,Z1,ZW,ZL,Zz,go_sem,seval];refine W3 d1 ?_;simp (disch:=omega) only [go_sem,seval];refine Zg [] _ _ _ _ ?_;simp (disch:=omega) only [go_sem,seval];refine cD ?_ ?_<;>intro h2<;>simp (disch:=omega) only [Sh.out h2,go_sem,seval]
    ·exact ⟨(k+1,m++ [nth R k]),⟨by simp only;omega,by simp only [hsu,hm];rw [if_pos (by simpa using h2)]⟩,by simp only;omega,Weak.mk (by simp (disch:=omega) only [Zi,go_sem,seval])⟩
    ·exact ⟨(k+1,m),⟨by simp only;omega,by simp only [hsu,hm];rw [if_neg (by simpa using h2),Y8]⟩,by simp only;omega,Weak.mk (by simp (disch:=omega) only [Zi,go_sem,seval])⟩
   ·have hkl:k=R.length:=Za
    subst hkl;rw [Yd] at hm;rw [<- hm];refine Zp (Weak.fz (o:=1) (by rfl)) ?_;refine Zg [] _ _ _ _ ?_;simp (disch:=omega) only [Zq,Zn,Z1,ZW,Zi,go_sem,seval];exact we
 ·have hv1:Kz x= []:=by rw [Kz,if_neg Za]
  rw [hv1,h0];simp (disch:=omega) only [go_sem,seval];exact we
theorem tS (x:Inst) (hx:InstOk x) (hn:x.orders.length<=4):PT 20 [.p (Zv x)] [.p (.list (decide (Yx x≠0)) ((Kz x).map Yb)),.p (.int .i64 (Yx x))]:=by
 have hs:=Ua hx;have hrl:=Uu hs;have c1:=SZ x hx hn;have c2:=NW x hs;have he:=QQ hx hn;refine Zf [5,14] Tryz.func20 rfl Zij ?_;simp (disch:=omega) only [Tryz.f20,go_sem,seval];refine BS c1 fun p c' e' hR=> ?_;obtain ⟨rfl,rfl⟩:=hR;rcases he with h0 | h0
 ·have c3:=fun v (hv:XN x v=true)=>xE x hx hn v;have hsv:=fun v (hv:XN x v=true)=>C7 hx hn h0 hv
  have hv1:Kz x=MH x:=by rw [Kz,if_pos h0]
  have hbl:MH x=(YM x 10).filter fun v=>decide (0<Xz x-Xz (Zm x [v])):=rfl;have hhas: ∀k,k<(YM x 10).length->XN x (nth (YM x 10) k)=true:=fun k hk=>W8.1 (Zt hk);rw [hv1,hbl,h0];generalize YM x 10=R at c2 hrl hhas;simp (disch:=omega) only [go_sem,seval];refine Zp (Weak.ofNil 7 2 (by simp (disch:=omega) only [go_sem,seval]) Zb (Weak.refl _ _ _)) ?_;refine Zg [14] _ _ _ _ ?_;simp (disch:=omega) only [go_sem,seval];refine (c2).use ?_;simp (disch:=omega) only [go_sem,seval];refine Z0 [14] [1,8] (fun q:Nat×List Itm=> [(7,.sl 2 0 q.2.length q.2.length),(9,.p (.int .i64 q.1))]) (fun q=> [Zi x,A9 p,.elems 2 (q.2.map Yb)]) (fun q=>q.1<=R.length/\q.2=(R.take q.1).filter fun v=>decide (0<Xz x-Xz (Zm x [v]))) (fun q=>R.length-q.1) (0,[]) ⟨Zb,Zb⟩ (Weak.mk ?_) ?_
  ·simp (disch:=omega) only [Zi,A9,go_sem,seval]
  ·rintro ⟨k,m⟩ ⟨hk,hm⟩;simp only at hk hm
   have hml:m.length<=k:=by
    have h1:=CA (fun v=>decide (0<Xz x-Xz (Zm x [v]))) (R.take k);rw [<- hm,Xh] at h1;omega
   simp (disch:=omega) only [Zi,A9,go_sem,seval];refine cD ?_ ?_<;>intro h1<;>simp (disch:=omega) only [Sh.out h1,go_sem,seval]
   ·have hk2:k<R.length:=Za
    have hsu:=I9 (p:=fun v=>decide (0<Xz x-Xz (Zm x [v]))) hk2;have hv:=hhas k hk2;have d1:=c3 _ hv;obtain ⟨_,_,e4,e5,e6,e7⟩:=hsv _ hv;rw [e4,e5] at d1;refine Xe ?_;simp (disch:=omega) only [go_sem,seval];refine U7 d1 ?_;simp (disch:=omega) only [go_sem,seval];refine cD ?_ ?_<;>intro h2<;>simp (disch:=omega) only [Sh.out h2,go_sem,seval]
    ·exact ⟨(k+1,m++ [nth R k]),⟨by simp only;omega,by simp only [hsu,hm];rw [if_pos (by simpa using h2)]⟩,by simp only;omega,Weak.mk (by simp (disch:=omega) only [Zi,A9,go_sem,seval])⟩
    ·exact ⟨(k+1,m),⟨by simp only;omega,by simp only [hsu,hm];rw [if_neg (by simpa using h2),Y8]⟩,by simp only;omega,Weak.mk (by simp (disch:=omega) only [Zi,A9,go_sem,seval])⟩
   ·have hkl:k=R.length:=Za
    subst hkl;rw [Yd] at hm;rw [<- hm];refine Zp (Weak.fz (o:=2) (by rfl)) ?_;refine Zg [] _ _ _ _ ?_;simp (disch:=omega) only [Zq,Zn,Z1,ZW,Zi,A9,go_sem,seval];exact we
 ·have hv1:Kz x= []:=by rw [Kz,if_neg Za]
  rw [hv1,h0];simp (disch:=omega) only [go_sem,seval];exact we
def I1 (a b:Wth):Int:=if YP b.pr a.pr≠0 then YP b.pr a.pr else if Qf a.it b.it<0 then-1 else if Qf b.it a.it<0 then 1 else 0
theorem EA {a b:Wth} :I1 a b<0↔aheW a b:=by
 unfold I1 aheW
 split
 ·rename_i h;rw [Ne,Ah] at h;rw [RR];omega
 ·rename_i h;rw [Z5,Ah] at h
  split
  ·omega
  ·split<;>omega
theorem gX : Go.Sort.SWO (ltOf I1) where
 irrefl x:=by simp only [ltOf,XH,EA,aheW,YJ];omega
 trans x y z h1 h2:=by simp only [ltOf,Zs,EA,aheW,YJ] at *;omega
 ntrans x y z h1 h2:=by simp only [ltOf,XH,EA,aheW,YJ] at *;omega
theorem MO (a b:Wth):PC 37 [.p (eWth a),.p (eWth b)] (.int .i64 (I1 a b)):=by
 refine Zd Tryz.func37 rfl ZiA ?_;simp (disch:=omega) only [Tryz.f37,go_sem,seval];refine (B8 b.pr a.pr).use ?_;simp (disch:=omega) only [go_sem,seval];refine cD ?_ ?_<;>intro h<;>simp (disch:=omega) only [Sh.out h,go_sem,seval]
 ·rw [I1,if_pos h]
 ·rw [I1,if_neg h];refine (Np a.it b.it).use ?_;simp (disch:=omega) only [go_sem,seval];refine cD ?_ ?_<;>intro h1<;>simp (disch:=omega) only [Sh.out h1,go_sem,seval];rw [if_neg h1];refine (Np b.it a.it).use ?_;simp (disch:=omega) only [go_sem,seval];refine cD ?_ ?_<;>intro h2<;>simp (disch:=omega) only [Sh.out h2,go_sem,seval]
  all_goals rw [if_neg h2]
theorem uO (xs:List Wth) (hl:xs.length<=1048576) {H:List AM.Obj} {o:Nat} (hH:H[o]? =some (.elems 3 (xs.map eWth))) :
  ACalls Tryz.prog 36 [.sl o 0 xs.length xs.length,.fn (.func 37) [] []] H fun y H'=>y= .tup []/\ ∃ys:List Wth,ys.Perm xs/\ys.Pairwise (fun a b=> ¬I1 b a<0)/\H'=H.set o (.elems 3 (ys.map eWth)) :=
 ACalls.sortFunc nM Ziz 3 Tryz.isAgg66 Tryz.sizeOf66 eWth (fun x=>⟨_,rfl,rfl,rfl⟩) I1 gX 37 MO xs Za hH
theorem Tu (a b:Wth):PC 39 [.p (eWth a),.p (eWth b)] (.bool (decide (aheW a b))):=by
 refine Zd Tryz.func39 rfl ZiC ?_;simp (disch:=omega) only [Tryz.f39,go_sem,seval];refine gF ?_ ?_<;>intro h1<;>simp (disch:=omega) only [Sh.out h1,go_sem,seval]
 ·have:aheW a b:= .inl Za;simp [this]
 ·refine gT ?_ ?_<;>intro h2<;>simp (disch:=omega) only [Sh.out h2,go_sem,seval]
  ·refine (cG a.it b.it).use ?_;simp (disch:=omega) only [go_sem,seval]
   have:aheW a b↔Qf a.it b.it<0:=by unfold aheW;omega
   simp [this]
  ·have: ¬aheW a b:=by unfold aheW;omega
   simp [this]
theorem mS {ws ys:List Wth} (hd:ws.Pairwise fun a b=>a.it≠b.it) (hp:ys.Perm ws) (h:ys.Pairwise fun a b=> ¬aheW b a):dZ ws ys:=by
 have hd2:ys.Pairwise fun a b=>a.it≠b.it:=(hp.pairwise_iff fun h e=>h e.symm).2 hd
 exact ⟨hp,(h.and hd2).imp fun ⟨h1,h2⟩=>by
  rcases Mo h2 with g | g
  ·exact g
  ·exact absurd g h1⟩
theorem Tg (x:Inst):(D2 x).Pairwise fun a b=>a.it≠b.it:=by
 unfold D2;rw [List.pairwise_map];exact (Ef x).imp fun h=>h
theorem mR (x:Inst): ∃L,dZ (D2 x) L:=by
 refine ⟨(D2 x).mergeSort (fun a b=> !decide (aheW b a)),mS (Tg x) (List.mergeSort_perm _ _) ?_⟩
 have:=List.pairwise_mergeSort (le:=fun a b=> !decide (aheW b a)) (fun a b c h1 h2=>by
  simp only [XQ,XH,aheW,YJ] at h1 h2 ⊢
  omega) (fun a b=>by
  simp only [W1,XQ,XH,aheW,YJ]
  omega) (D2 x)
 refine this.imp fun h=> ?_;simpa using h
noncomputable def Qv (x:Inst):List Wth:=if Yx x=0 then Classical.choose (mR x) else []
theorem EW {x:Inst} (h:Yx x=0):dZ (D2 x) (Qv x):=by
 rw [Qv,if_pos h];exact Classical.choose_spec (mR x)
theorem oF (x:Inst):(D2 x).length=(YM x 10).length:=by simp [D2]
theorem mQ (x:Inst):(Qv x).length<=(YM x 10).length:=by
 by_cases h:Yx x=0
 ·rw [(EW h).1.length_eq,oF];exact ZB _
 ·rw [Qv,if_neg h];simp
theorem nF (x:Inst) (hx:InstOk x) (hn:x.orders.length<=4):PT 17 [.p (Zv x)] [.p (.list (decide (Yx x≠0)) ((Qv x).map eWth)),.p (.int .i64 (Yx x))]:=by
 have hs:=Ua hx;have hrl:=Uu hs;have c1:=AX x hx hn;have c2:=Lp x hs;have he:=QQ hx hn;refine Zf [5,14] Tryz.func17 rfl Zig ?_;simp (disch:=omega) only [Tryz.f17,go_sem,seval];refine W3 c1 ?_;rcases he with h0 | h0
 ·have c3:=fun v (hv:XN x v=true)=>DV x hx hn [v] false Zb (Xz x) (QR hx hn);have hsv:=fun v (hv:XN x v=true)=>C7 hx hn h0 hv;have hhas: ∀k,k<(YM x 10).length->XN x (nth (YM x 10) k)=true:=fun k hk=>W8.1 (Zt hk);have hrk: ∀ys:List Wth,ys.Perm (D2 x)->(ys.Pairwise fun a b=> ¬I1 b a<0)->ys=Qv x:=fun ys h1 h2=>Ia (mS (Tg x) h1 (h2.imp fun h=>by rwa [EA] at h)) (EW h0);obtain ⟨L,hL⟩: ∃L,L=Qv x:=⟨_,rfl⟩;rw [<- hL] at hrk ⊢;have hwl:D2 x=(YM x 10).map (BT x):=rfl
  rw [hwl] at hrk;rw [h0];generalize YM x 10=R at c2 hrl hhas hrk;simp (disch:=omega) only [go_sem,seval];refine Zp (Weak.ofNil 6 3 (by simp (disch:=omega) only [go_sem,seval]) Zb (Weak.refl _ _ _)) ?_;refine Zg [8,14] _ _ _ _ ?_;simp (disch:=omega) only [go_sem,seval];refine (c2).use ?_;simp (disch:=omega) only [go_sem,seval];refine Z0 [8,14] [1,4,20,21] (fun q:Nat×List Wth=> [(6,.sl 1 0 q.2.length q.2.length),(22,.p (.int .i64 q.1))]) (fun q=> [Zi x,.elems 3 (q.2.map eWth)]) (fun q=>q.1<=R.length/\q.2=(R.take q.1).map (BT x)) (fun q=>R.length-q.1) (0,[]) ⟨Zb,Zb⟩ (Weak.mk ?_) ?_
  ·simp (disch:=omega) only [Zi,go_sem,seval]
  ·rintro ⟨k,m⟩ ⟨hk,hm⟩;simp only at hk hm
   have hml:m.length=k:=by rw [hm];simp;omega
   simp (disch:=omega) only [Zi,go_sem,seval];refine cD ?_ ?_<;>intro h1<;>simp (disch:=omega) only [Sh.out h1,go_sem,seval]
   ·have hk2:k<R.length:=Za
    have hsn:(R.take (k+1)).map (BT x)=m++ [BT x (nth R k)]:=by rw [hm,X0 hk2,Zh hk2,Xs,Zq,Zn]
    have hv:=hhas k hk2;have d1:=c3 _ hv;obtain ⟨e2,e3,_,_,e6,e7⟩:=hsv _ hv;rw [e2,e3] at d1;refine YI (Ag 3 ?_);simp (disch:=omega) only [Zi,go_sem,seval];refine ⟨_,_,Weak.fz (o:=3) (by rfl),?_⟩;simp (disch:=omega) only [Zq,Zn,Z1,ZW,ZL,Zz,go_sem,seval];refine W3 d1 ?_;simp (disch:=omega) only [go_sem,seval];refine Zg [] _ _ _ _ ?_;simp (disch:=omega) only [go_sem,seval];exact ⟨(k+1,m++ [BT x (nth R k)]),⟨by simp only;omega,by simp only [hsn]⟩,by simp only;omega,Weak.mk (by simp (disch:=omega) only [Zi,BT,go_sem,seval])⟩
   ·have hkl:k=R.length:=Za
    subst hkl;rw [Yd] at hm
    have hml2:m.length<=1048576:=Za
    refine (uO m hml2 (H:=_) (o:=1) rfl).mono ?_;rintro y H' ⟨rfl,ys,g1,g2,rfl⟩;have hyl:ys.length=m.length:=g1.length_eq;have hyL:ys=L:=hrk ys (by rw [<- hm];exact g1) g2;subst hyL;simp (disch:=omega) only [Z1,ZW,go_sem,seval];rw [<- hyl];refine Zp (Weak.fz (o:=1) (by rfl)) ?_;refine Zg [] _ _ _ _ ?_;simp (disch:=omega) only [Zq,Zn,Z1,ZW,Zi,go_sem,seval];exact we
 ·have hv1:Qv x= []:=by rw [Qv,if_neg Za]
  rw [hv1,h0];simp (disch:=omega) only [go_sem,seval];exact we
def Vs (m:List Wth) (w:Wth) (j:Nat):List Wth:=m.take j++w::m.drop j
theorem Ni {m:List Wth} {w:Wth} {j:Nat} (h:j<=m.length):(Vs m w j).length=m.length+1:=by simp [Vs];omega
theorem sC {m:List Wth} {w:Wth} {j:Nat} (h:j<=m.length):nth (Vs m w j) j=w:=by
 have e:j-(m.take j).length=0:=by simp;omega
 unfold Vs nth;rw [Q7,Vg (by simp;omega),e]
 rfl
theorem PB {m:List Wth} {w:Wth} {j i:Nat} (h:j<=m.length) (hi:i<j):nth (Vs m w j) i=nth m i:=by
 rw [Zh (by rw [Ni h];omega),Zh Za];unfold Vs;rw [List.getElem_append_left (by simp;omega),List.getElem_take]
theorem aJ {m:List Wth} {w:Wth} {j:Nat} (h:j+1<=m.length):((Vs m w (j+1)).set (j+1) (nth m j)).set j w=Vs m w j:=by
 have e1:m.take (j+1)=m.take j++ [nth m j]:=by rw [X0 Za,Zh Za]
 have e2:m.drop j=nth m j::m.drop (j+1):=by rw [Zh Za];exact VF Za
 have hl:(m.take j).length=j:=by simp;omega
 unfold Vs;rw [e1,e2,J6,Aq _ _ Za,Aq _ _ Za,hl];simp [show j+1-j=1 by omega]
theorem insP_perm {m:List Wth} {w:Wth} {j:Nat} :(Vs m w j).Perm (m++ [w]):=by
 unfold Vs;refine List.perm_middle.trans ?_;rw [CC];exact (List.perm_append_comm (l₁ := [w]) (l₂ :=m))
theorem Nj {m:List Wth} {w:Wth} {j:Nat} (hj:j<=m.length) (hs:m.Pairwise aheW) (h1: ∀i,j<=i->i<m.length->aheW w (nth m i)) (h2: ∀i,i<j->aheW (nth m i) w):(Vs m w j).Pairwise aheW:=by
 have hsp:=hs;rw [<- CC j m,Ar] at hsp;unfold Vs;rw [Ar];refine ⟨hsp.1,List.pairwise_cons.2 ⟨fun b hb=> ?_,hsp.2.1⟩,fun a ha b hb=> ?_⟩
 ·obtain ⟨i,hi,rfl⟩:=ZN.1 hb;rw [List.getElem_drop]
  have hi:i<m.length-j:=by simpa using hi
  have:=h1 (j+i) Za Za;rwa [Zh Za] at this
 ·rcases Z3.1 hb with rfl | hb
  ·obtain ⟨i,hi,rfl⟩:=ZN.1 ha;rw [List.getElem_take]
   have hi:i<j:=by simp at hi;omega
   have:=h2 i hi;rwa [Zh Za] at this
  ·exact hsp.2.2 a ha b hb
theorem tT (x:Inst) (hx:InstOk x) (hn:x.orders.length<=4):PT 18 [.p (Zv x)] [.p (.list (decide (Yx x≠0)) ((Qv x).map eWth)),.p (.int .i64 (Yx x))]:=by
 have hs:=Ua hx;have hrl:=Uu hs;have c1:=SZ x hx hn;have c2:=NW x hs;have he:=QQ hx hn;refine Zf [5,19] Tryz.func18 rfl Zih ?_;simp (disch:=omega) only [Tryz.f18,go_sem,seval];refine BS c1 fun p c' e' hR=> ?_;obtain ⟨rfl,rfl⟩:=hR;rcases he with h0 | h0
 ·have c3:=fun v=>xE x hx hn v;have hsv:=fun v (hv:XN x v=true)=>C7 hx hn h0 hv;have hhas: ∀k,k<(YM x 10).length->XN x (nth (YM x 10) k)=true:=fun k hk=>W8.1 (Zt hk);have hrk: ∀ys:List Wth,ys.Perm (D2 x)->ys.Pairwise aheW->ys=Qv x:=fun ys h1 h2=>Ia ⟨h1,h2⟩ (EW h0);have hnd:=Ef x;obtain ⟨L,hL⟩: ∃L,L=Qv x:=⟨_,rfl⟩;rw [<- hL] at hrk ⊢;have hwl:D2 x=(YM x 10).map (BT x):=rfl;rw [hwl] at hrk;rw [h0];generalize YM x 10=R at c2 hrl hhas hrk hnd;simp (disch:=omega) only [go_sem,seval]
  refine Zp (Weak.ofNil 7 3 (by simp (disch:=omega) only [go_sem,seval]) Zb (Weak.refl _ _ _)) ?_;refine Zg [19] _ _ _ _ ?_;simp (disch:=omega) only [go_sem,seval];refine (c2).use ?_;simp (disch:=omega) only [go_sem,seval];refine Z0 [19] [1,8] (fun q:Nat×List Wth=> [(7,.sl 2 0 q.2.length q.2.length),(9,.p (.int .i64 q.1))]) (fun q=> [Zi x,A9 p,.elems 3 (q.2.map eWth)]) (fun q=>q.1<=R.length/\q.2.Perm ((R.take q.1).map (BT x))/\q.2.Pairwise aheW) (fun q=>R.length-q.1) (0,[]) ⟨Zb,Zb,Zb⟩ (Weak.mk ?_) ?_
  ·simp (disch:=omega) only [Zi,A9,go_sem,seval]
  ·rintro ⟨k,m⟩ ⟨hk,hm,hsm⟩;simp only at hk hm hsm
   have hml:m.length=k:=by rw [hm.length_eq];simp;omega
   simp (disch:=omega) only [Zi,A9,go_sem,seval];refine cD ?_ ?_<;>intro h1<;>simp (disch:=omega) only [Sh.out h1,go_sem,seval]
   ·have hk2:k<R.length:=Za
    have hsn:(R.take (k+1)).map (BT x)=(R.take k).map (BT x)++ [BT x (nth R k)]:=by rw [X0 hk2,Zh hk2,Xs,Zq,Zn]
    have hv:=hhas k hk2;have d1:=c3 (nth R k);obtain ⟨_,_,e4,e5,e6,e7⟩:=hsv _ hv;rw [e4,e5] at d1
    have hdis: ∀i,i<m.length->(nth m i).it≠(BT x (nth R k)).it:=fun i hi e=>by
     have h2:nth m i∈(R.take k).map (BT x):=hm.mem_iff.1 (Zt hi);obtain ⟨v,h3,h4⟩:=XC.1 h2;rw [<- h4] at e;have e:v=nth R k:=e;obtain ⟨i2,hi2,h5⟩:=ZN.1 h3
     have hi3:i2<k:=by simp at hi2;omega
     rw [List.getElem_take] at h5;rw [Zh hk2] at e;have:=(List.getElem_inj hnd (h₀ :=Za) (h₁ :=hk2)).1 (h5.trans e);omega
    obtain ⟨w,hw⟩: ∃w,w=BT x (nth R k):=⟨_,rfl⟩
    have hwe:eWth w= .agg [.int .i64 (nth R k).kind,.int .i64 (nth R k).a,.int .i64 (Xz x-Xz (Zm x [nth R k]))]:=by rw [hw];rfl
    rw [<- hw] at hsn hdis;refine Xe ?_;simp (disch:=omega) only [go_sem,seval];refine U7 d1 ?_;simp (disch:=omega) only [go_sem,seval];refine Zl [1,7,8,9] (fun j:Nat=> [(12,.p (.int .i64 j))]) (fun j=> [Zi x,A9 p,.elems 3 ((Vs m w j).map eWth),.elems 3 [eWth w]]) (fun j=>j<=m.length/\ ∀i,j<=i->i<m.length->aheW w (nth m i)) (fun j=>j) m.length ⟨ZB _,fun i h1 h2=>Za⟩ (Weak.mk ?_) ?_
    ·simp (disch:=omega) only [Zi,A9,Vs,Int.add_sub_cancel,Yd,UH,Xs,Zq,Zn,hwe,go_sem,seval]
    ·rintro j ⟨hj,hin⟩;have hil:=Ni (w:=w) hj;have hat:=sC (w:=w) hj
     have hlm0:((Vs m w j).map eWth).length=m.length+1:=by rw [ZY,hil]
     simp (disch:=omega) only [Zi,A9,go_sem,seval];rcases Nat.eq_zero_or_pos j with hz | hz
     ·subst hz;refine Xe ?_;simp (disch:=omega) only [go_sem,seval];refine ⟨(k+1,Vs m w 0),⟨by simp only;omega,?_,?_⟩,by simp only;omega,Weak.mk (by simp (disch:=omega) only [Zi,A9,hil,go_sem,seval])⟩
      ·rw [hsn];exact insP_perm.trans (hm.append_right [w])
      ·exact Nj Za hsm hin fun i hi=>Za
     ·obtain ⟨j,rfl⟩: ∃i,j=i+1:=⟨j-1,Za⟩;have hbe:=PB (w:=w) hj (show j<j+1 by omega);have hsw:=aJ (m:=m) (w:=w) (j:=j) Za
      have el1:Ks ((Vs m w (j+1)).map eWth) (j+1)=eWth w:=by rw [Vz Za,hat]
      have el2:Ks ((Vs m w (j+1)).map eWth) j=eWth (nth m j):=by rw [Vz Za,hbe]
      have hlm:((Vs m w (j+1)).map eWth).length=m.length+1:=by rw [ZY,hil]
      refine Xe ?_;simp (disch:=omega) only [el1,el2,hil,eq_self,true_and,show (j+1<m.length+1)=True from eq_true Za,show (j<m.length+1)=True from eq_true Za,show ((j:Int)+1-1).toNat=j from Za,show decide (0<(j:Int)+1)=true from UK Za,go_sem,seval];refine Zo (Tu w (nth m j)) ?_;simp (disch:=omega) only [go_sem,seval];refine cD ?_ ?_<;>intro h2<;>simp (disch:=omega) only [Sh.out h2,go_sem,seval]
      ·have ZT:(((Vs m w (j+1)).map eWth).set (j+1) (eWth (nth m j))).set j (eWth w)=(Vs m w j).map eWth:=by rw [<- hsw,V4,V4]
       have FL:((List.map eWth (Vs m w (j+1))).set (j+1) (.agg [.int .i64 (nth m j).it.kind,.int .i64 (nth m j).it.a,.int .i64 (nth m j).pr]))=List.map eWth ((Vs m w (j+1)).set (j+1) (nth m j)):=by rw [V4,RZ]
       have hl1:((Vs m w (j+1)).set (j+1) (nth m j)).length=m.length+1:=by rw [U0,hil]
       have hl2:(List.map eWth ((Vs m w (j+1)).set (j+1) (nth m j))).length=m.length+1:=by rw [ZY,hl1]
       have hn1:nth ((Vs m w (j+1)).set (j+1) (nth m j)) j=nth m j:=by
        rw [Zh Za,List.getElem_set_ne Za,<- Zh Za,hbe]
       have hset2:(List.map eWth ((Vs m w (j+1)).set (j+1) (nth m j))).set j (.agg [.int .i64 w.it.kind,.int .i64 w.it.a,.int .i64 w.pr])=List.map eWth (Vs m w j):=by
        rw [<- hsw]
        conv=>rhs;rw [V4,RZ]
       simp (disch:=omega) only [el1,el2,FL,hset2,hl1,hn1,hil,eq_self,true_and,show (j+1<m.length+1)=True from eq_true Za,show (j<m.length+1)=True from eq_true Za,show ((j:Int)+1-1).toNat=j from Za,go_sem,seval]
       exact ⟨j,⟨Za,fun i h3 h4=>by
        rcases Y9 j i with h5 | h5
        ·exact hin i Za h4
        ·obtain rfl:i=j:=Za
         exact h2⟩,Za,Weak.mk (by simp (disch:=omega) only [Zi,A9,FL,hset2,Int.add_sub_cancel,go_sem,seval])⟩
      ·have h3:aheW (nth m j) w:=by
        rcases Mo (hdis j Za) with g | g
        ·exact g
        ·exact absurd g h2
       refine ⟨(k+1,Vs m w (j+1)),⟨by simp only;omega,?_,?_⟩,by simp only;omega,Weak.mk (by simp (disch:=omega) only [Zi,A9,hil,go_sem,seval])⟩
       ·rw [hsn];exact insP_perm.trans (hm.append_right [w])
       ·refine Nj hj hsm hin fun i hi=> ?_;rcases Y9 i j with h5 | h5
        ·have:=Q9.1 hsm i j Za Za h5;rw [<- Zh,<- Zh] at this;exact OT this h3
        ·obtain rfl:i=j:=Za
         exact h3
   ·have hkl:k=R.length:=Za
    subst hkl;rw [Yd] at hm;have hyL:m=L:=hrk m hm hsm;subst hyL;refine Zp (Weak.fz (o:=2) (by rfl)) ?_;refine Zg [] _ _ _ _ ?_;simp (disch:=omega) only [Zq,Zn,Z1,ZW,Zi,A9,go_sem,seval];exact we
 ·have hv1:Qv x= []:=by rw [Qv,if_neg Za]
  rw [hv1,h0];simp (disch:=omega) only [go_sem,seval];exact we
theorem rI (x:Inst) (hw:x.wf 1048576):ACalls Tryz.prog 7 [.p (Zv x)] [] fun y H'=> ∃b:Bool,(b=true↔x.orders.length<=2/\x.types.length<=2/\x.apart.length+x.before.length<=4/\InstOk x)/\y= .p (.bool b)/\H'= []:=by
 have w3:=hw.2.1;have w4:=hw.2.2.2.1;have w5:=hw.2.2.2.2.2.1;have w6:=hw.2.2.2.2.2.2.2.1;refine ACalls.pureE (YT Tryz.func7 rfl ZnR (Zg [] _ _ _ _ ?_));simp (disch:=omega) only [Tryz.f7,go_sem,seval];refine gT ?_ ?_<;>intro h<;>simp (disch:=omega) only [Sh.out h,go_sem,seval]
 ·refine gT ?_ ?_<;>intro h2<;>simp (disch:=omega) only [Sh.out h2,go_sem,seval]
  ·refine gT ?_ ?_<;>intro h3<;>simp (disch:=omega) only [Sh.out h3,go_sem,seval]
   ·refine ((zW x hw).frozenE).useV fun m hm=> ?_;simp (disch:=omega) only [go_sem,seval];refine ⟨decide (m.length=0),?_,Zb⟩;have:=hm.emp;rw [Zs,List.length_eq_zero_iff,this]
    constructor
    ·intro h2;exact ⟨Za,Za,Za,h2⟩
    ·intro h2;exact h2.2.2.2
   ·exact ⟨false,by simp;omega,rfl⟩
  ·exact ⟨false,by simp;omega,rfl⟩
 ·exact ⟨false,by simp;omega,rfl⟩
theorem Hi : PC 9 [] (.bool true):=by
 have c1:=Zdq excX Hu (by decide) ⟨4,0⟩;have c2:=Of excX Hu (by decide);obtain ⟨e1,e2⟩:=rG;obtain ⟨e3,_⟩:=Fz;rw [e1,e2] at c1;rw [show Kz excX= [⟨4,0⟩] by rw [Kz,if_pos e3,rF],e3] at c2;obtain ⟨R,hR⟩: ∃R:List Itm,R= [⟨4,0⟩]:=⟨_,rfl⟩;rw [<- hR] at c2
 have r1:R.length=1:=by rw [hR];rfl
 have r2:nth R 0=⟨4,0⟩:=by rw [hR];rfl
 clear hR;refine UU [1,2,3] Tryz.func9 rfl ZnS ?_;simp (disch:=omega) only [Tryz.f9,go_sem,seval];refine YI (Ag 3 ?_);simp (disch:=omega) only [go_sem,seval];refine ⟨_,_,Weak.fz (o:=1) (by rfl),?_⟩;simp (disch:=omega) only [Zq,Zn,Z1,ZW,ZL,Zz,go_sem,seval];refine Zg [2,3] _ _ _ _ ?_;simp (disch:=omega) only [go_sem,seval];refine Zp (Weak.fz (o:=0) (by rfl)) ?_;refine Zp (Weak.fz (o:=2) (by rfl)) ?_;refine YI (Ag 1 ?_);simp (disch:=omega) only [Zq,Zn,Z1,ZW,ZL,Zz,go_sem,seval]
 refine ⟨_,_,Weak.fz (o:=4) (by rfl),?_⟩;simp (disch:=omega) only [Zq,Zn,Z1,ZW,ZL,Zz,go_sem,seval];refine Zg [3] _ _ _ _ ?_;simp (disch:=omega) only [go_sem,seval];refine Zp (Weak.fz (o:=5) (by rfl)) ?_;refine Zg [] _ _ _ _ ?_;simp (disch:=omega) only [Zq,Zn,Z1,ZW,go_sem,seval];refine W3 c1 ?_;simp (disch:=omega) only [go_sem,seval];refine W3 c2 ?_;simp (disch:=omega) only [r1,r2,go_sem,seval]
theorem cI {x:Inst} (hx:InstOk x) (hn:x.orders.length<=4):(∀k,k<(Qv x).length->0<=(nth (Qv x) k).pr)/\(∀k,k+1<(Qv x).length->(nth (Qv x) (k+1)).pr<=(nth (Qv x) k).pr)/\((Qv x).filter fun w=>decide (0<w.pr)).length=(Kz x).length:=by
 by_cases h0:Yx x=0
 ·obtain ⟨hp,hs⟩:=EW h0;refine ⟨fun k hk=> ?_,fun k hk=> ?_,?_⟩
  ·have hm:=hp.mem_iff.1 (Zt hk);obtain ⟨v,hv,e⟩:=XC.1 hm;rw [<- e];exact (C7 hx hn h0 (W8.1 hv)).2.2.2.2.1
  ·have:=Q9.1 hs k (k+1) Za hk Za;rw [<- Zh,<- Zh] at this;unfold aheW at this;omega
  ·rw [Kz,if_pos h0,(hp.filter _).length_eq];unfold D2 MH;rw [List.filter_map,ZY]
   rfl
 ·rw [Qv,if_neg h0,Kz,if_neg h0];simp
theorem rJ {p:Wth->Bool} {l:List Wth} {k:Nat} (h:k<l.length):((l.take (k+1)).filter p).length=((l.take k).filter p).length+if p (nth l k)=true then 1 else 0:=by
 rw [I9 h,ZG]
 split<;>simp
theorem Lt (x:Inst) (hw:x.wf 1048576):PC 6 [.p (Zv x)] (.bool true):=by
 refine UU [] Tryz.func6 rfl ZnQ ?_;simp (disch:=omega) only [Tryz.f6,go_sem,seval];refine (rI x hw).useV fun b hb=> ?_;simp (disch:=omega) only [go_sem,seval];refine cD ?_ ?_<;>intro h<;>simp (disch:=omega) only [Sh.out h,go_sem,seval]
 ·refine (Hi).use ?_;simp (disch:=omega) only [go_sem,seval]
 ·obtain ⟨hn,_,_,hx⟩:=hb.1 (by simpa using h)
  have hn4:x.orders.length<=4:=Za
  have c1:=nF x hx hn4;have c2:=tT x hx hn4;have c3:=Of x hx hn4;have c4:=tS x hx hn4;obtain ⟨f1,f2,f3⟩:=cI hx hn4;have hl:=mQ x;have hrl:=Uu (Ua hx)
  have hbl:(Kz x).length<=(Qv x).length:=by rw [<- f3];exact CA _ _
  generalize Qv x=L at c1 c2 f1 f2 f3 hl hbl;generalize Kz x=B at c3 c4 f3 hbl;generalize Yx x=e at c1 c2 c3 c4;generalize decide (e≠0)=fl at c1 c2 c3 c4;refine W3 c1 ?_;simp (disch:=omega) only [go_sem,seval];refine W3 c2 ?_;simp (disch:=omega) only [go_sem,seval];refine W3 c3 ?_;simp (disch:=omega) only [go_sem,seval];refine W3 c4 ?_;simp (disch:=omega) only [eq_self,VI,CD,VE,go_sem,seval];refine Zl [3,5,7,9] (fun k:Nat=> [(11,.p (.int .i64 ((L.take k).filter fun w=>decide (0<w.pr)).length)),(12,.p (.int .i64 k))]) (fun _=> [Zi x]) (fun k=>k<=L.length) (fun k=>L.length-k) 0 Za (Weak.mk ?_) ?_
  ·simp (disch:=omega) only [Zi,Ql,List.filter_nil,ZF,go_sem,seval]
  ·intro k hk
   have hcl:((L.take k).filter fun w=>decide (0<w.pr)).length<=k:=by
    have h1:=CA (fun w:Wth=>decide (0<w.pr)) (L.take k);rw [Xh] at h1;omega
   simp (disch:=omega) only [Zi,go_sem,seval];refine cD ?_ ?_<;>intro h2<;>simp (disch:=omega) only [Sh.out h2,go_sem,seval]
   ·have hk2:k<L.length:=Za
    have g1:=f1 k hk2;have hfc:=rJ (p:=fun w=>decide (0<w.pr)) hk2
    have n1: ¬(nth L k).pr<0:=Za
    have go: ∀K:Prop,((0<(nth L k).pr->K)/\(¬ 0<(nth L k).pr->K))->K:=fun K h=>by
     by_cases c:0<(nth L k).pr
     ·exact h.1 c
     ·exact h.2 c
    rcases Nat.eq_zero_or_pos k with hz | hz
    ·subst hz;refine Xe ?_;simp (disch:=omega) only [eq_self,VI,CD,VE,n1,go_sem,seval];refine cD ?_ ?_<;>intro h3<;>simp (disch:=omega) only [Sh.out h3,go_sem,seval]
     ·rw [if_pos (by simpa using h3)] at hfc;exact ⟨1,Za,Za,Weak.mk (by simp (disch:=omega) only [Zi,hfc,go_sem,seval])⟩
     ·rw [if_neg (by simpa using h3)] at hfc;exact ⟨1,Za,Za,Weak.mk (by simp (disch:=omega) only [Zi,hfc,go_sem,seval])⟩
    ·obtain ⟨k,rfl⟩: ∃i,k=i+1:=⟨k-1,Za⟩;have g2:=f2 k hk2
     have n2: ¬(nth L k).pr<(nth L (k+1)).pr:=Za
     refine Xe ?_;simp (maxSteps:=3000000) (disch:=omega) only [eq_self,VI,CD,VE,n1,n2,show decide (0<(k:Int)+1)=true from UK Za,show ((k:Int)+1-1).toNat=k from Za,go_sem,seval];refine cD ?_ ?_<;>intro h3<;>simp (disch:=omega) only [Sh.out h3,go_sem,seval]
     ·rw [if_pos (by simpa using h3)] at hfc;exact ⟨k+1+1,Za,Za,Weak.mk (by simp (disch:=omega) only [Zi,hfc,go_sem,seval])⟩
     ·rw [if_neg (by simpa using h3)] at hfc;exact ⟨k+1+1,Za,Za,Weak.mk (by simp (disch:=omega) only [Zi,hfc,go_sem,seval])⟩
   ·have hkl:k=L.length:=Za
    subst hkl;rw [Yd,f3];refine Zl [7,9,11] (fun k:Nat=> [(13,.p (.int .i64 k))]) (fun _=> [Zi x]) (fun k=>k<=B.length) (fun k=>B.length-k) 0 Za (Weak.mk ?_) ?_
    ·simp (disch:=omega) only [Zi,go_sem,seval]
    ·intro k hk;simp (disch:=omega) only [Zi,go_sem,seval];refine cD ?_ ?_<;>intro h3<;>simp (disch:=omega) only [Sh.out h3,go_sem,seval]
     ·have hk2:k<B.length:=Za
      refine Xe ?_;simp (disch:=omega) only [eq_self,VI,CD,VE,go_sem,seval];exact ⟨k+1,Za,Za,Weak.mk (by simp (disch:=omega) only [Zi,go_sem,seval])⟩
     ·refine (Hi).use ?_;simp (disch:=omega) only [go_sem,seval]
end Go.Proofs.YtenjikkmmibffaaGreatDoor.K
