/- Declarations that the closing texts need, part 14: joined by tools/slim.py. -/
import Derived.Test.YtmbelkfkhclnkaaGreatDoorZS13
set_option linter.unusedVariables false
set_option linter.unusedSimpArgs false
namespace Go.Proofs.YtmbelkfkhclnkaaGreatDoor.K
open Go Go.AM Go.Proofs
set_option maxRecDepth 8000
set_option maxHeartbeats 8000000
def OY {α:Type} (f:α->Bool) (l:List α):Int:=match l.findIdx? f with | some i=>(i:Int) | none=> -1
theorem IA {α:Type} [Inhabited α] {f:α->Bool} {l:List α} {k:Nat} (hk:k<l.length) (h:f (nth l k)=true) (hno: ∀j,j<k->f (nth l j)=false):OY f l=(k:Int):=by
 have:l.findIdx? f=some k:=by
  grind [List.findIdx?_eq_some_iff_getElem,Zi]
 simp [OY,this]
theorem IC {α:Type} [Inhabited α] {f:α->Bool} {l:List α} (hno: ∀j,j<l.length->f (nth l j)=false):OY f l= -1:=by
 have:l.findIdx? f=none:=by
  rw [List.findIdx?_eq_none_iff];intro x hx;obtain ⟨j,hj,rfl⟩:=List.mem_iff_getElem.1 hx
  grind [Zi]
 simp [OY,this]
theorem IB {α:Type} {f:α->Bool} {l:List α} :decide (0<=OY f l)=l.any f:=by
 grind [OY]
theorem Gq (l:List (List Int)) (c:Bool) (g:FuncId) (caps:List V) (H:List AM.Obj) (f:List Int->Bool) (hl:l.length<=1048576) (hW:Da H H.length H H) (hc:ZE H.length caps=true)
  (hg: ∀v∈l,ACalls Tryz.prog g (.p (OU v)::caps) H fun x H'=>x= .p (.bool (f v))/\H'=H) :
  ACalls Tryz.prog 221 [.p (.list c (l.map OU)),.fn (.func g) [] caps] H fun x H'=>x= .p (.int .i64 (OY f l))/\H'=H:=by
 refine Xb Tryz.func221 rfl S4 (Zd [] _ _ _ _ ?_);simp (disch:=omega) only [Tryz.f221,go_sem,seval];refine Zj [0,1,7] (fun k:Nat=> [(8,.p (.int .i64 k))]) (fun _=>H) (fun k=>k<=l.length/\ ∀j,j<k->f (nth l j)=false) (fun k=>l.length-k) 0 Zb (Weak.mk ?_) ?_
 ·simp (disch:=omega) only [hW,hc,go_sem,seval];simp
 ·rintro k ⟨hk,hno⟩;refine Zf ?_;refine cD ?_ ?_<;>intro h<;>simp (disch:=omega) only [Sh.out h,go_sem,seval,↓reduceIte]
  ·have hk2:k<l.length:=Za
   have hgk:=hg (nth l k) (ZQ hk2);simp (disch:=omega) only [Rt,go_sem,seval] at hgk;refine hgk.useH (Zf ?_);refine cD ?_ ?_<;>intro h2<;>simp (disch:=omega) only [Sh.out h2,go_sem,seval,↓reduceIte]
   ·grind [IA]
   ·have h3:f (nth l k)=false:=Za
    refine ⟨k+1,⟨Za,Zl.2 ⟨hno,h3⟩⟩,Za,Weak.mk ?_⟩;simp (disch:=omega) only [hW,hc,go_sem,seval];simp
  grind [IC]
theorem AV (l:List (List Int)) (c:Bool) (g:FuncId) (caps:List V) (H:List AM.Obj) (f:List Int->Bool) (hl:l.length<=1048576) (hW:Da H H.length H H) (hc:ZE H.length caps=true)
  (hg: ∀v∈l,ACalls Tryz.prog g (.p (OU v)::caps) H fun x H'=>x= .p (.bool (f v))/\H'=H) :
  ACalls Tryz.prog 188 [.p (.list c (l.map OU)),.fn (.func g) [] caps] H fun x H'=>x= .p (.bool (l.any f))/\H'=H:=by
 refine Xb Tryz.func188 rfl SH (Zd [] _ _ _ _ ?_);simp (disch:=omega) only [Tryz.f188,go_sem,seval];refine (Gq l c g caps H f hl hW hc hg).useH (Zf ?_);rw [IB]
theorem Lo (x:Inst) (r:Rte) (hx:InstOk x) (hl:r.visits.length<=1048576):PC 153 [.p (Xt x),.p (eRte r)] (.int .i64 (Xi x r.visits)):=by
 have hf:=Gs hx;obtain ⟨h1,h2⟩:=List.append_eq_nil_iff.1 hx.rules
 have ha:x.apart.length<=1048576:=by
  have h3:=(List.append_eq_nil_iff.1 h1).1
  grind [IM]
 have hb:x.before.length<=1048576:=by
  have h3:=(List.append_eq_nil_iff.1 h2).1
  grind [IM]
 exact El x r (by have:=hf.len;omega) hl ha hb
theorem Ft {x:Inst} {l:List Vis} (hi:Inr x l) (hn:x.orders.length<=10):A6 l=(((YO l:Nat):Int),0):=by
 rw [A6,if_pos];rw [List.all_eq_true];intro v hv;have:=hi v hv;simp [Mq];omega
theorem zI {α:Type} (f:Nat->α) (n:Nat):(List.range n).map f++ [f n]=(List.range (n+1)).map f:=by grind [List.range_succ]
theorem Ql {P Q:Prop} (h:Q) (e:Q->P:=by intro h;simp (disch:=omega) only [List.map_cons,List.map_nil,List.set_cons_succ,List.set_cons_zero,go_sem,seval];exact h):P:=e h
theorem Lk (x:Inst) (r:Rte) (hx:InstOk x) (hl:r.visits.length<=1048576) (h0:Xi x r.visits=0) :
  PT 116 [.p (Xt x),.p (eRte r)] [.p (.list false ((JW x r.visits).map OU)),.p (.int .i64 0)]:=by
 have hd:=U0 hx;have hsq:=Wm h0;have hol:=hd.ord;have hso:=VF r hl;rw [Ft hsq.inr hol] at hso
 have hD:dimsOf x.types=((dimsOf x.types).toNat:Int):=by have:=hd.dim;omega
 have cd:=NQ x.types x.types_c hd.typ;rw [hD] at cd;have hst:=G3 hsq.inr hol
 have hmem: ∀i∈Xw ((YO r.visits:Nat):Int) 63,0<=i/\i<(x.orders.length:Int):=fun i hi=>by
  rw [nL hsq.inr hol] at hi
  grind
 have cs:=Oc x ((YO r.visits:Nat):Int) (dimsOf x.types).toNat (by have:=hd.dim;omega) Za hmem (Cr _ _) (fun o ho=>by have:=hd.load o ho;grind);rw [hst] at cs;refine Zg [20] Tryz.func116 rfl RY ?_;simp (disch:=omega) only [Tryz.f116,go_sem,seval];refine (Lo x r hx hl).use (Zf ?_);simp (disch:=omega) only [h0,go_sem,seval];refine X3 hso (Zf ?_);refine Xs (Zf ?_);refine Zn (cd) (Zf ?_);refine Zn (cs) (Zf ?_);refine ZH [20] [2,37,38] (fun q:Nat×List (List Int)=> [(9,.p (.list false ((Yx x r.visits q.1).map eI))),(10,.sl 2 0 q.2.length q.2.length),(39,.p (.int .i64 q.1))]) (fun q=> [Zk x,ZN r,.elems 1 (q.2.map OU)]) (fun q=>q.1<=r.visits.length/\q.2=(List.range (q.1+1)).map (Yx x r.visits)) (fun q=>r.visits.length-q.1) (0,[Yx x r.visits 0]) Zb (Weak.mk ?_) ?_
 ·simp (disch:=omega) only [Zk,ZN,List.map_nil,List.map_cons,List.length_nil,List.length_cons,go_sem,seval]
 ·rintro ⟨k,o⟩ ⟨hk,ho⟩;simp only at hk ho
  have hol2:o.length=k+1:=by rw [ho];simp
  refine Aw ?_;refine cD ?_ ?_<;>intro h1<;>simp (disch:=omega) only [Sh.out h1,go_sem,seval,↓reduceIte]
  ·have hk2:k<r.visits.length:=Za
   obtain ⟨v1,v2⟩:=hsq.inr _ (ZQ hk2)
   have hi:(nth r.visits k).order.toNat<x.orders.length:=Za
   obtain ⟨l1,l2⟩:=hd.load _ (Zu hi);have hsu:=FU hsq hk2;have hal:=BF (x:=x) (l:=r.visits) (n:=k);have hdm:=hd.dim
   have hrg: ∀j,j<(Yx x r.visits k).length-> -1073741824<=nth (Yx x r.visits k) j/\nth (Yx x r.visits k) j<=1073741824/\ -1073741824<=nth (nth x.orders (nth r.visits k).order.toNat).load j/\nth (nth x.orders (nth r.visits k).order.toNat).load j<=1073741824:=fun j hj=>by
    have b1:=Hn (x:=x) (l:=r.visits) (n:=k) (j:=j) Za hd
    grind [Zu]
   refine cD ?_ ?_<;>intro h2<;>simp (disch:=omega) only [Sh.out h2,go_sem,seval,↓reduceIte]
   ·rw [if_pos h2] at hsu;refine X3 (TK (Yx x r.visits k) (nth x.orders (nth r.visits k).order.toNat).load false (nth x.orders (nth r.visits k).order.toNat).load_c Za Za hrg) (Zf ?_);exact ⟨(k+1,o++ [Yx x r.visits (k+1)]),⟨Za,by grind⟩,Za,Weak.mk (by simp (disch:=omega) only [hsu,List.length_append,List.length_cons,List.length_nil,List.map_append,List.map_cons,List.map_nil,go_sem,seval])⟩
   ·rw [if_neg (by rw [h2];simp)] at hsu;refine X3 (Lg (Yx x r.visits k) (nth x.orders (nth r.visits k).order.toNat).load false (nth x.orders (nth r.visits k).order.toNat).load_c Za Za hrg) (Zf ?_);exact ⟨(k+1,o++ [Yx x r.visits (k+1)]),⟨Za,by grind⟩,Za,Weak.mk (by simp (disch:=omega) only [hsu,List.length_append,List.length_cons,List.length_nil,List.map_append,List.map_cons,List.map_nil,go_sem,seval])⟩
  ·have hkl:k=r.visits.length:=Za
   subst hkl;refine Zr (Weak.fz (o:=2) (by rfl)) (Zd [] _ _ _ _ (Ql ?_));rw [JW,<- ho];exact we
theorem Ni (x:Inst) (r:Rte) (a:List Int) (htl:x.types.length<=1048576) (hty:0<=r.typ/\r.typ<(x.types.length:Int)) (ha:a.length<=1048576) (hc:(Z1 x r).cap.length<=1048576) :
  ACalls Tryz.prog 189 [.p (OU a),.ptr 0 0,.ptr 1 0] [Zk x,ZN r] fun y H'=>y= .p (.bool (!QV a (Z1 x r).cap))/\H'= [Zk x,ZN r]:=by
 have hti:r.typ.toNat<x.types.length:=Za
 refine Zg [] Tryz.func189 rfl SI ?_;simp (disch:=omega) only [Tryz.f189,Zk,ZN,go_sem,seval];refine (NS a (Z1 x r).cap false (Z1 x r).cap_c ha hc).use (Zf ?_);exact we
theorem Lh (x:Inst) (r:Rte) (hx:InstOk x) (hl:r.visits.length<=1048576) (hty:0<=r.typ/\r.typ<(x.types.length:Int)) (h0:Xi x r.visits=0) :
  PC 155 [.p (Xt x),.p (eRte r)] (.int .i64 (if JV x (Z1 x r).cap r.visits=true then 0 else 17)):=by
 have hd:=U0 hx;have htl:=hd.typ
 have hti:r.typ.toNat<x.types.length:=Za
 have hcp:(Z1 x r).cap.length<=1048576:=by
  have hcap:=hx.types.2 _ hti;unfold Q5 at hcap;obtain ⟨⟨⟨⟨⟨⟨⟨⟨_,_⟩,_⟩,_⟩,hcap⟩,_⟩,_⟩,_⟩,_⟩:=hcap;simp only [Wh,Bool.and_eq_true,decide_eq_true_eq,rng] at hcap;unfold Z1;omega
 have hll:(JW x r.visits).length=r.visits.length+1:=by simp [JW]
 have hvl:=(Wm h0).len hd.ord
 have Z7:(JW x r.visits).any (fun a=> !QV a (Z1 x r).cap)= !JV x (Z1 x r).cap r.visits:=by
  grind [JV,JW]
 have e1: ¬r.typ<0:=Za
 have e2: ¬(x.types.length:Int)<=r.typ:=Za
 refine Zc Tryz.func155 rfl Sm ?_;simp (disch:=omega) only [Tryz.f155,e1,e2,go_sem,seval];refine X3 (Lk x r hx hl h0) (Zf ?_);refine (AV (JW x r.visits) false 189 [.ptr 0 0,.ptr 1 0] [Zk x,ZN r] (fun a=> !QV a (Z1 x r).cap) Za (by simp (disch:=omega) only [Zk,ZN,go_sem,seval]) (by rfl) (fun a ha=>Ni x r a htl hty ?_ hcp)).useH ?_
 ·obtain ⟨j,_,rfl⟩:=List.mem_map.1 ha;rw [BF];have:=hd.dim;omega
 ·refine Aw ?_;rw [Z7];refine cD ?_ ?_<;>intro h1<;>simp (disch:=omega) only [Sh.out h1,go_sem,seval]
  ·grind
  grind
set_option maxRecDepth 60000
theorem DP (a b:Vis):PC 100 [.p (ZV a),.p (ZV b)] (.int .i64 (UQ a.order b.order)):=by
 refine Zc Tryz.func100 rfl RI ?_;simp (disch:=omega) only [Tryz.f100,go_sem,seval];refine (HS a.order b.order).use ?_;simp (disch:=omega) only [go_sem,seval]
theorem Co {l:List Vis} {k:Nat} (h0:0<k) (hk:k<l.length):Wu (l.take (k+1))=if (nth l k).order<Wu (l.take k) then (nth l k).order else Wu (l.take k):=by
 cases l with
 | nil=>simp at hk
 | cons v m =>
  obtain ⟨j,rfl⟩: ∃j,k=j+1:=⟨k-1,Za⟩
  have hj:j<m.length:=by simpa using hk
  rw [List.take_succ_cons,List.take_succ_cons,Wu,Wu,List.take_succ_eq_append_getElem hj,List.foldl_append];simp only [List.foldl_cons,List.foldl_nil];rw [show nth (v::m) (j+1)=m[j] from Zi (l:=m) hj]
theorem B2 {a b:Int} :UQ a b<0↔a<b:=by
 unfold UQ
 split
 ·simp_all
 ·split<;>simp_all
theorem GD (l:List Vis) (c:Bool) (hl:l.length<=1048576) (h0:0<l.length) :
  ACalls Tryz.prog 99 [.p (.list c (l.map ZV)),.fn (.func 100) [] []] [] fun x H'=> ∃v:Vis,v.order=Wu l/\x= .p (ZV v)/\H'= []:=by
 refine ACalls.pureE (Xb Tryz.func99 rfl mZ (Zd [] _ _ _ _ ?_))
 have h1: ¬(l.length:Int)<1:=Za
 have e0:YK (l.map ZV) 0=ZV (nth l 0):=Xe h0;simp (disch:=first | omega | (simp only [List.length_cons,List.length_nil,List.length_append,List.length_map,List.length_take,List.length_drop]<;>omega)) only [Tryz.f99,h1,e0,h0,go_sem,seval]
 have et:Wu (l.take 1)=(nth l 0).order:=by
  cases l with
  | nil=>simp at h0
  | cons v m=>rfl
 refine Zj [0,1,4,5] (fun k:Nat×Vis=> [(6,.p (.int .i64 k.1))]) (fun k=> [.cells [.p (.int .i64 0),.p (.bool false)],.cells [.p (.int .i64 k.2.order),.p (.bool k.2.drp)]]) (fun k=>1<=k.1/\k.1<=l.length/\k.2.order=Wu (l.take k.1)) (fun k=>l.length-k.1) (1,nth l 0) ⟨Zb,by simp only;omega,et.symm⟩ (Weak.mk ?_) ?_
 ·simp (disch:=omega) only [go_sem,seval]
 ·rintro ⟨k,v⟩ ⟨hk0,hk,hv⟩;simp only at hk0 hk hv;simp (disch:=omega) only [go_sem,seval];refine cD ?_ ?_<;>intro h2<;>simp (disch:=omega) only [Sh.out h2,go_sem,seval]
  ·have hk2:k<l.length:=Za
   have htk:=Co hk0 hk2;rw [<- hv] at htk;refine Xs ?_;simp (disch:=omega) only [go_sem,seval];refine Zn (DP (nth l k) v) ?_;simp (disch:=omega) only [go_sem,seval];refine cD ?_ ?_<;>intro h3<;>simp (disch:=omega) only [Sh.out h3,go_sem,seval]
   ·rw [B2] at h3;rw [if_pos h3] at htk;exact ⟨(k+1,nth l k),⟨Zb,by simp only;omega,htk.symm⟩,by simp only;omega,wk⟩
   ·rw [B2] at h3;rw [if_neg h3] at htk;exact ⟨(k+1,v),⟨Zb,by simp only;omega,htk.symm⟩,by simp only;omega,wk⟩
  ·have hkl:k=l.length:=Za
   subst hkl;rw [List.take_length] at hv;exact ⟨v,hv,rfl⟩
theorem An (r:Rte) (hl:r.visits.length<=1048576):PC 58 [.p (eRte r)] (.int .i64 (Wu r.visits)):=by
 refine Zc Tryz.func58 rfl lV ?_;simp (disch:=omega) only [Tryz.f58,go_sem,seval];refine cD ?_ ?_<;>intro h1<;>simp (disch:=omega) only [Sh.out h1,go_sem,seval]
 ·have e:r.visits= []:=List.length_eq_zero_iff.1 Za;rw [e];simp [Wu]
 ·refine ((GD r.visits r.visits_c hl Za).behind (by rfl) _).mono ?_;rintro x H' ⟨y,H1,⟨v,hv,rfl,rfl⟩,rfl,rfl⟩;simp (disch:=omega) only [Vb,hv,go_sem,seval]
theorem NL (a b c d:Int):NK [UQ a b,UQ c d]<0↔(a<b\/a=b/\c<d):=by
 rw [NM];unfold UQ
 split
 ·split at* <;>(try split at *)<;>(try split)<;>omega
 ·omega
def Ps (a b:Rte):Int:=NK [UQ a.typ b.typ,UQ (Wu a.visits) (Wu b.visits)]
theorem BI {a b:Rte} :Ps a b<0↔altR a b=true:=by
 rw [Ps,NL];simp [altR]
theorem G0 (a b:Rte) (ha:a.visits.length<=1048576) (hb:b.visits.length<=1048576):PC 55 [.p (eRte a),.p (eRte b)] (.int .i64 (Ps a b)):=by
 refine Zc Tryz.func55 rfl lS ?_;simp (disch:=omega) only [Tryz.f55,go_sem,seval];refine Xs ?_;simp (disch:=omega) only [go_sem,seval];refine Zn (HS a.typ b.typ) ?_;simp (disch:=omega) only [go_sem,seval];refine Zn (An a ha) ?_;simp (disch:=omega) only [go_sem,seval];refine Zn (An b hb) ?_;simp (disch:=omega) only [go_sem,seval];refine Zn (HS (Wu a.visits) (Wu b.visits)) ?_;simp (disch:=omega) only [go_sem,seval];refine Zn (vP [UQ a.typ b.typ,UQ (Wu a.visits) (Wu b.visits)] false Zb) ?_
 simp (disch:=omega) only [go_sem,seval]
 rfl
def Z5 (U:List Int) (m:List Rte):List AM.Obj:= [.elems 4 (m.map eRte),.elems 1 (U.map eI)]
theorem Gr (U:List Int) (l:List Rte) (hl:l.length<=1048576) (hv: ∀r∈l,r.visits.length<=1048576) :
  ACalls Tryz.prog 131 [.sl 0 0 l.length l.length,.p (.int .i64 0),.p (.int .i64 l.length),.fn (.func 55) [] []] (Z5 U l) fun y H'=>y= .tup []/\H'=Z5 U (Xl altR l.length l):=by
 refine Zg [] Tryz.func131 rfl R9 ?_;simp (disch:=omega) only [Tryz.f131,go_sem,seval]
 refine Zj [0,1,2,3] (fun q:Nat=> [(8,.p (.int .i64 q))]) (fun q=>Z5 U (Xl altR q l))
  (fun q=>1<=q/\(q<=l.length\/q=1)) (fun q=>l.length-q) 1 ⟨Za,Za⟩ (Weak.mk ?_) ?_
 ·simp (disch:=omega) only [Z5,Xl,UR,go_sem,seval]
 ·rintro i ⟨hi,hi1⟩;simp (disch:=omega) only [Z5,go_sem,seval];refine cD ?_ ?_<;>intro h1<;>simp (disch:=omega) only [Sh.out h1,go_sem,seval]
  ·have hi2:i<l.length:=Za
   have hsl:=Yu (lt:=altR) (l:=l) (i:=i) Za;have hmem: ∀r∈Xl altR i l,r∈l:=fun r h=>(YX (lt:=altR) (l:=l) i Za).mem_iff.1 h;obtain ⟨M2,hM2⟩: ∃M2,M2=Xl altR (i+1) l:=⟨_,rfl⟩;have hsu:M2=UR altR i (Xl altR i l):=hM2
   generalize Xl altR i l=M at *
   refine Zj [0,1,2,3,8] (fun q:Nat×List Rte=> [(9,.p (.int .i64 q.1))]) (fun q=>Z5 U q.2)
    (fun q=>q.1<=i/\q.2.length=l.length/\(∀r∈q.2,r∈l)/\M2=UR altR q.1 q.2) (fun q=>q.1) (i,M) ⟨Zb,hsl,hmem,hsu⟩ (Weak.mk ?_) ?_
   ·simp (disch:=omega) only [Z5,go_sem,seval]
   ·clear hsl hmem hsu;rintro ⟨j,m⟩ ⟨hj,hml,hm,hd⟩;simp only at hj hml hm hd
    have hj2:j<m.length:=Za
    simp (disch:=omega) only [Z5,go_sem,seval];refine Xs ?_;simp (disch:=omega) only [go_sem,seval]
    have e1:((j:Int)-1).toNat=j-1:=Za
    refine gT ?_ ?_<;>intro h2<;>simp (disch:=omega) only [Sh.out h2,go_sem,seval]
    ·have he1:YK (m.map eRte) j=eRte (nth m j):=Xe hj2;have he2:YK (m.map eRte) (j-1)=eRte (nth m (j-1)):=Xe Za
     have hj3:j<l.length:=Za
     have hj4:j-1<l.length:=Za
     simp (disch:=first | omega | (simp only [List.length_cons,List.length_nil,List.length_append,List.length_map,List.length_take,List.length_drop]<;>omega)) only [e1,he1,he2,hml,hj3,hj4,eq_self,true_and,if_true,go_sem,seval];refine Zn (G0 (nth m j) (nth m (j-1)) (hv _ (hm _ (Zu hj2))) (hv _ (hm _ (Zu Za)))) ?_;simp (disch:=omega) only [go_sem,seval];refine cD ?_ ?_<;>intro h3<;>simp (disch:=omega) only [Sh.out h3,go_sem,seval]
     ·rw [BI] at h3;refine Dr [15] 16 mixed Ze Ze Ze Ze Zb ?_;simp (disch:=first | omega | (simp only [List.length_cons,List.length_nil,List.length_append,List.length_map,List.length_take,List.length_drop]<;>omega)) only [e1,he1,he2,hml,hj3,hj4,eq_self,true_and,if_true,go_sem,seval]
      have E9:(m.map eRte).set j (.agg [.int .i64 (nth m (j-1)).typ,.int .i64 (nth m (j-1)).start,.list (nth m (j-1)).rests_c ((nth m (j-1)).rests.map eB),.list (nth m (j-1)).visits_c ((nth m (j-1)).visits.map ZV)])=(m.set j (nth m (j-1))).map eRte:=by rw [List.map_set];rfl
      have hl1:(m.set j (nth m (j-1))).length=l.length:=by simp [hml]
      refine Gw 15 _ _ Ze (by simp (disch:=first | omega | (simp only [List.length_cons,List.length_nil,List.length_append,List.length_map,List.length_take,List.length_drop]<;>omega)) only [e1,he1,he2,hml,hj3,hj4,eq_self,true_and,if_true,E9,go_sem,seval];exact ⟨rfl,rfl⟩) (Nv ?_)
      generalize hm1:m.set j (nth m (j-1))=m1 at *
      have he3:YK (m1.map eRte) (j-1)=eRte (nth m1 (j-1)):=Xe Za
      have hset2:(m1.map eRte).set (j-1) (.agg [.int .i64 (nth m j).typ,.int .i64 (nth m j).start,.list (nth m j).rests_c ((nth m j).rests.map eB),.list (nth m j).visits_c ((nth m j).visits.map ZV)])=(Vg m j).map eRte:=by rw [Vg,hm1,List.map_set];rfl
      simp (disch:=first | omega | (simp only [List.length_cons,List.length_nil,List.length_append,List.length_map,List.length_take,List.length_drop]<;>omega)) only [e1,he3,hl1,hj4,eq_self,true_and,if_true,hset2,go_sem,seval];obtain ⟨j,rfl⟩: ∃q,j=q+1:=⟨j-1,Za⟩
      have hd2:M2=UR altR j (Vg m (j+1)):=by rw [hd,UR,if_pos (by simpa using h3)]
      have hsl:=Yd (l:=m) (j:=j+1);exact ⟨(j,Vg m (j+1)),⟨by simp only;omega,by rw [hsl];exact hml,fun r h=>hm r ((QO hj2).mem_iff.1 h),hd2⟩,by simp only;omega,Weak.mk (by simp (disch:=omega) only [Z5,show (j:Int)+1-1=(j:Int) by omega,go_sem,seval])⟩
     ·rw [BI] at h3
      have hd2:M2=m:=by
       rw [hd]
       cases j with
       | zero=>rfl
       | succ j=>rw [UR,if_neg (by simpa using h3)]
      rw [hd2] at hM2;exact ⟨i+1,Za,Za,Weak.mk (by simp (disch:=omega) only [Z5,hM2,go_sem,seval])⟩
    ·have hj0:j=0:=Za
     subst hj0;rw [show M2=m from hd] at hM2;exact ⟨i+1,Za,Za,Weak.mk (by simp (disch:=omega) only [Z5,hM2,go_sem,seval])⟩
  ·have he:Xl altR i l=Xl altR l.length l:=by
    rcases hi1 with h | h
    ·rw [show i=l.length by omega]
    ·subst h;rcases Nat.eq_zero_or_pos l.length with e | e
     ·rw [e];rfl
     ·rw [show l.length=1 by omega]
   rw [he];exact ⟨.tup [],Z5 U (Xl altR l.length l),Weak.mk (by simp (disch:=omega) only [Z5,go_sem,seval]),rfl,rfl⟩
theorem G2 (U:List Int) (l:List Rte) (hl:l.length<=19) (hv: ∀r∈l,r.visits.length<=1048576) :
  ACalls Tryz.prog 97 [.sl 0 0 l.length l.length,.p (.int .i64 l.length),.fn (.func 55) [] []] (Z5 U l) fun y H'=>y= .tup []/\H'=Z5 U (Xl altR l.length l):=by
 refine Zg [] Tryz.func97 rfl mX ?_;simp (disch:=omega) only [Tryz.f97,Z5,go_sem,seval];refine Zj [0,1,2,6,7,8] (fun _:Unit=> []) (fun _=>Z5 U l) (fun _=>True) (fun _=>0) () trivial (Weak.mk ?_) ?_
 ·simp (disch:=omega) only [Z5,go_sem,seval]
 ·intro _ _;simp (disch:=omega) only [Z5,go_sem,seval]
  have h1: ¬(20:Int)<=(l.length:Int):=Za
  simp (disch:=omega) only [h1,go_sem,seval];refine (Gr U l Za hv).useH ?_;simp (disch:=omega) only [Z5,go_sem,seval];refine Zj [0,1,2,6] (fun _:Unit=> []) (fun _=>Z5 U (Xl altR l.length l)) (fun _=>True) (fun _=>0) () trivial (Weak.mk ?_) ?_
  ·simp (disch:=omega) only [Z5,go_sem,seval]
  ·intro _ _
   have h2: ¬(20:Int)<(l.length:Int):=Za
   simp (disch:=omega) only [Z5,h2,go_sem,seval];exact ⟨.tup [],Z5 U (Xl altR l.length l),Weak.mk (by simp (disch:=omega) only [Z5,go_sem,seval]),rfl,rfl⟩
theorem KN (U:List Int) (l:List Rte) (hl:l.length<=19) (hv: ∀r∈l,r.visits.length<=1048576) :
  ACalls Tryz.prog 54 [.sl 0 0 l.length l.length,.fn (.func 55) [] []] (Z5 U l) fun y H'=>y= .tup []/\H'=Z5 U (Xl altR l.length l):=by
 refine Zg [] Tryz.func54 rfl lR ?_;simp (disch:=omega) only [Tryz.f54,Z5,go_sem,seval];refine (G2 U l hl hv).useH ?_;simp (disch:=omega) only [Z5,go_sem,seval];exact ⟨.tup [],Z5 U (Xl altR l.length l),Weak.mk (by simp (disch:=omega) only [Z5,go_sem,seval]),rfl,rfl⟩
theorem YV {β:Type} [Inhabited β] {a b:List β} (hl:a.length=b.length) (h: ∀j,j<a.length->nth a j=nth b j):a=b:=by
 grind [List.ext_getElem,Zi]
theorem Ia (a b:List Int) (c d:Bool) (ha:a.length<=1048576) (hb:b.length<=1048576):PC 63 [.p (.list c (a.map eI)),.p (.list d (b.map eI))] (.bool (decide (a=b))):=by
 refine Zc Tryz.func63 rfl mA ?_;simp (disch:=omega) only [Tryz.f63,go_sem,seval];refine cD ?_ ?_<;>intro h1<;>simp (disch:=omega) only [Sh.out h1,go_sem,seval]
 ·rw [decide_eq_false fun e=>h1 (by rw [e])]
 ·have hl:a.length=b.length:=Za
  refine Zj [0,1,12] (fun k:Nat=> [(13,.p (.int .i64 k))]) (fun _=> []) (fun k=>k<=a.length/\ ∀j,j<k->nth a j=nth b j) (fun k=>a.length-k) 0 Zb (Weak.mk ?_) ?_
  ·simp (disch:=omega) only [go_sem,seval]
  ·rintro k ⟨hk,hno⟩;simp (disch:=omega) only [go_sem,seval];refine cD ?_ ?_<;>intro h2<;>simp (disch:=omega) only [Sh.out h2,go_sem,seval]
   ·have hk2:k<a.length:=Za
    refine Xs ?_;simp (disch:=omega) only [go_sem,seval];refine cD ?_ ?_<;>intro h3<;>simp (disch:=omega) only [Sh.out h3,go_sem,seval]
    ·rw [decide_eq_false fun e=>h3 (by rw [e])]
    ·exact ⟨k+1,⟨Za,Zl.2 ⟨hno,Za⟩⟩,Za,wk⟩
   ·rw [decide_eq_true (YV hl fun j hj=>hno j Za)]
theorem H9 (a b:List Bool) (c d:Bool) (ha:a.length<=1048576) (hb:b.length<=1048576):PC 104 [.p (.list c (a.map eB)),.p (.list d (b.map eB))] (.bool (decide (a=b))):=by
 refine Zc Tryz.func104 rfl RK ?_;simp (disch:=omega) only [Tryz.f104,go_sem,seval];refine cD ?_ ?_<;>intro h1<;>simp (disch:=omega) only [Sh.out h1,go_sem,seval]
 ·rw [decide_eq_false fun e=>h1 (by rw [e])]
 ·have hl:a.length=b.length:=Za
  refine Zj [0,1,12] (fun k:Nat=> [(13,.p (.int .i64 k))]) (fun _=> []) (fun k=>k<=a.length/\ ∀j,j<k->nth a j=nth b j) (fun k=>a.length-k) 0 Zb (Weak.mk ?_) ?_
  ·simp (disch:=omega) only [go_sem,seval,↓reduceIte]
  ·rintro k ⟨hk,hno⟩;refine Zf ?_;refine cD ?_ ?_<;>intro h2<;>simp (disch:=omega) only [Sh.out h2,go_sem,seval,↓reduceIte]
   ·have hk2:k<a.length:=Za
    refine Xs (Zf ?_);refine cD ?_ ?_<;>intro h3<;>simp (disch:=omega) only [Sh.out h3,go_sem,seval,↓reduceIte]
    ·rw [decide_eq_false fun e=>by grind]
    ·exact ⟨k+1,⟨Za,Zl.2 ⟨hno,by grind⟩⟩,Za,wk⟩
   grind [YV]
theorem Ic (a b:List Vis) (c d:Bool) (ha:a.length<=1048576) (hb:b.length<=1048576):PC 105 [.p (.list c (a.map ZV)),.p (.list d (b.map ZV))] (.bool (decide (a=b))):=by
 refine Zc Tryz.func105 rfl RL ?_;simp (disch:=omega) only [Tryz.f105,go_sem,seval];refine cD ?_ ?_<;>intro h1<;>simp (disch:=omega) only [Sh.out h1,go_sem,seval]
 ·rw [decide_eq_false fun e=>h1 (by rw [e])]
 ·have hl:a.length=b.length:=Za
  refine Zj [0,1,12] (fun k:Nat=> [(13,.p (.int .i64 k))]) (fun _=> []) (fun k=>k<=a.length/\ ∀j,j<k->nth a j=nth b j) (fun k=>a.length-k) 0 Zb (Weak.mk ?_) ?_
  ·simp (disch:=omega) only [go_sem,seval,↓reduceIte]
  ·rintro k ⟨hk,hno⟩;refine Zf ?_;refine cD ?_ ?_<;>intro h2<;>simp (disch:=omega) only [Sh.out h2,go_sem,seval,↓reduceIte]
   ·have hk2:k<a.length:=Za
    refine Xs (Zf ?_);refine cD ?_ ?_<;>intro h3<;>simp (disch:=omega) only [Sh.out h3,go_sem,seval,↓reduceIte]
    ·rw [decide_eq_false fun e=>by grind]
    ·exact ⟨k+1,⟨Za,Zl.2 ⟨hno,Ev.2 (by grind)⟩⟩,Za,wk⟩
   grind [YV]
def Y6 (a b:Rte):Bool:=decide (a.typ=b.typ)&&(decide (a.start=b.start)&&(decide (a.rests=b.rests)&&decide (a.visits=b.visits)))
theorem N7 (a b:Rte) (ha:Vf a) (hb:Vf b):PC 62 [.p (eRte a),.p (eRte b)] (.bool (Y6 a b)):=by
 obtain ⟨a1,a2⟩:=ha;obtain ⟨b1,b2⟩:=hb;refine Zc Tryz.func62 rfl lZ ?_;simp (disch:=omega) only [Tryz.f62,go_sem,seval];unfold Y6;refine gT ?_ ?_<;>intro h1<;>simp (disch:=omega) only [Sh.out h1,go_sem,seval];rw [decide_eq_true h1,Bool.true_and];refine gT ?_ ?_<;>intro h2<;>simp (disch:=omega) only [Sh.out h2,go_sem,seval];rw [decide_eq_true h2,Bool.true_and];refine (H9 a.rests b.rests a.rests_c b.rests_c a2 b2).use ?_;simp (disch:=omega) only [go_sem,seval];refine gT ?_ ?_<;>intro h3<;>simp (disch:=omega) only [Sh.out h3,go_sem,seval]
 rw [decide_eq_true h3,Bool.true_and];refine (Ic a.visits b.visits a.visits_c b.visits_c a1 b1).use ?_;simp (disch:=omega) only [go_sem,seval]
theorem Ib (a b:List Rte) (c d:Bool) (ha:a.length<=1048576) (hb:b.length<=1048576) (h1: ∀r∈a,Vf r) (h2: ∀r∈b,Vf r) :
  PC 61 [.p (.list c (a.map eRte)),.p (.list d (b.map eRte)),.fn (.func 62) [] []] (.bool (decide (a.length=b.length)&&(List.range a.length).all fun k=>Y6 (nth a k) (nth b k))):=by
 refine Zc Tryz.func61 rfl lY ?_;simp (disch:=omega) only [Tryz.f61,go_sem,seval];refine cD ?_ ?_<;>intro h3<;>simp (disch:=omega) only [Sh.out h3,go_sem,seval]
 ·rw [decide_eq_false fun e=>h3 (by rw [e]),Bool.false_and]
 ·have hl:a.length=b.length:=Za
  rw [decide_eq_true hl,Bool.true_and];refine Zj [1,2,15,16] (fun k:Nat=> [(17,.p (.int .i64 k))]) (fun _=> []) (fun k=>k<=a.length/\ ∀j,j<k->Y6 (nth a j) (nth b j)=true) (fun k=>a.length-k) 0 Zb (Weak.mk ?_) ?_
  ·simp (disch:=omega) only [go_sem,seval]
  ·rintro k ⟨hk,hno⟩;simp (disch:=omega) only [go_sem,seval];refine cD ?_ ?_<;>intro h4<;>simp (disch:=omega) only [Sh.out h4,go_sem,seval]
   ·have hk2:k<a.length:=Za
    refine (N7 (nth a k) (nth b k) (h1 _ (Zu hk2)) (h2 _ (Zu Za))).use ?_;simp (disch:=omega) only [go_sem,seval]
    cases hs:Y6 (nth a k) (nth b k) with
    | false =>
     rw [List.all_eq_false.2 ⟨k,List.mem_range.2 hk2,by rw [hs];simp⟩];simp (disch:=omega) only [hs,Bool.not_false,go_sem,seval]
    | true =>
     simp (disch:=omega) only [hs,Bool.not_true,Bool.false_eq_true,go_sem,seval];exact ⟨k+1,⟨Za,Zl.2 ⟨hno,hs⟩⟩,Za,wk⟩
   ·rw [List.all_eq_true.2 fun j hj=>hno j (by have:=List.mem_range.1 hj;omega)]
def Um (p q:Pln):Bool:=(decide (p.routes.length=q.routes.length)&&(List.range p.routes.length).all fun k=>Y6 (nth p.routes k) (nth q.routes k))&&decide (p.unserved=q.unserved)
theorem A8 (p q:Pln) (hp:p.routes.length<=1048576/\p.unserved.length<=1048576/\ ∀r∈p.routes,Vf r) (hq:q.routes.length<=1048576/\q.unserved.length<=1048576/\ ∀r∈q.routes,Vf r) :
  PC 24 [.p (Ws p),.p (Ws q)] (.bool (Um p q)):=by
 refine Zc Tryz.func24 rfl kZ ?_;simp (disch:=omega) only [Tryz.f24,go_sem,seval];unfold Um;have ce:=Ib p.routes q.routes p.routes_c q.routes_c hp.1 hq.1 hp.2.2 hq.2.2
 generalize (decide (p.routes.length=q.routes.length)&&(List.range p.routes.length).all fun k=>Y6 (nth p.routes k) (nth q.routes k))=e at *
 refine (ce).use ?_;simp (disch:=omega) only [go_sem,seval]
 cases e with
 | false=>simp (disch:=omega) only [Bool.false_and,go_sem,seval]
 | true =>
  rw [Bool.true_and];simp (disch:=omega) only [go_sem,seval];refine (Ia p.unserved q.unserved p.unserved_c q.unserved_c hp.2.1 hq.2.1).use ?_;simp (disch:=omega) only [go_sem,seval]
theorem QJ {a b:Rte} :Y6 a b=true↔a.typ=b.typ/\a.start=b.start/\a.rests=b.rests/\a.visits=b.visits:=by
 simp [Y6]
theorem KM (a b:Rte) (ha:Vf a) (hb:Vf b):PC 48 [.p (eRte a),.p (eRte b)] (.bool (Y6 a b)):=by
 obtain ⟨a1,a2⟩:=ha;obtain ⟨b1,b2⟩:=hb
 have no:(a.typ=b.typ/\a.start=b.start/\a.rests=b.rests/\a.visits=b.visits->False)->Y6 a b=false:=fun h=>by
  grind [QJ]
 refine Zc Tryz.func48 rfl lO ?_;simp (disch:=omega) only [Tryz.f48,go_sem,seval];refine gF ?_ ?_<;>intro h1<;>simp (disch:=omega) only [Sh.out h1,go_sem,seval,↓reduceIte]
 ·grind
 ·refine gF ?_ ?_<;>intro h2<;>simp (disch:=omega) only [Sh.out h2,go_sem,seval,↓reduceIte]
  ·grind
  ·refine gF ?_ ?_<;>intro h3<;>simp (disch:=omega) only [Sh.out h3,go_sem,seval,↓reduceIte]
   ·grind
   ·refine cD ?_ ?_<;>intro h4<;>simp (disch:=omega) only [Sh.out h4,go_sem,seval]
    ·grind
    ·have l1:a.rests.length=b.rests.length:=Za
     have l2:a.visits.length=b.visits.length:=Za
     refine Zj [2,3] (fun k:Nat=> [(5,.p (.int .i64 k))]) (fun _=> [ZN a,ZN b]) (fun k=>k<=a.rests.length/\ ∀j,j<k->nth a.rests j=nth b.rests j) (fun k=>a.rests.length-k) 0 Zb (Weak.mk ?_) ?_
     ·simp (disch:=omega) only [ZN,go_sem,seval]
     ·rintro k ⟨hk,hno⟩;simp (disch:=omega) only [ZN,go_sem,seval];refine cD ?_ ?_<;>intro h5<;>simp (disch:=omega) only [Sh.out h5,go_sem,seval,↓reduceIte]
      ·have hk2:k<a.rests.length:=Za
       refine Xs (Zf ?_);refine ZX ?_ ?_<;>intro h6
       ·grind
       ·exact ⟨k+1,⟨Za,Zl.2 ⟨hno,by grind⟩⟩,Za,wk⟩
      ·have e1:a.rests=b.rests:=YV l1 fun j hj=>hno j Za;refine Zj [2,3] (fun k:Nat=> [(6,.p (.int .i64 k))]) (fun _=> [ZN a,ZN b]) (fun k=>k<=a.visits.length/\ ∀j,j<k->nth a.visits j=nth b.visits j) (fun k=>a.visits.length-k) 0 Zb (Weak.mk ?_) ?_
       ·simp (disch:=omega) only [ZN,go_sem,seval]
       ·rintro k ⟨hk,hno2⟩;simp (disch:=omega) only [ZN,go_sem,seval];refine cD ?_ ?_<;>intro h7<;>simp (disch:=omega) only [Sh.out h7,go_sem,seval,↓reduceIte]
        ·have hk2:k<a.visits.length:=Za
         refine Xs (Zf ?_);refine ZX ?_ ?_<;>intro h8
         ·grind
         ·exact ⟨k+1,⟨Za,Zl.2 ⟨hno2,Ev.2 (by grind)⟩⟩,Za,wk⟩
        grind [QJ,YV]
theorem Qg {p q:Pln} (h:(p.routes.length=q.routes.length/\(∀k,k<p.routes.length->Y6 (nth p.routes k) (nth q.routes k)=true)/\p.unserved=q.unserved)->False):Um p q=false:=by
 simp_all [Um]
theorem As {p q:Pln} (h1:p.routes.length=q.routes.length) (h2: ∀k,k<p.routes.length->Y6 (nth p.routes k) (nth q.routes k)=true) (h3:p.unserved=q.unserved):Um p q=true:=by
 simp_all [Um]
theorem CQ (p q:Pln) (hp:p.routes.length<=1048576/\p.unserved.length<=1048576/\ ∀r∈p.routes,Vf r) (hq:q.routes.length<=1048576/\q.unserved.length<=1048576/\ ∀r∈q.routes,Vf r) :
  PC 20 [.p (Ws p),.p (Ws q)] (.bool (Um p q)):=by
 have p1:=hp.1;have p2:=hp.2.1;refine Zc Tryz.func20 rfl kW ?_;simp (disch:=omega) only [Tryz.f20,go_sem,seval];refine gF ?_ ?_<;>intro h1<;>simp (disch:=omega) only [Sh.out h1,go_sem,seval,↓reduceIte]
 ·grind [Qg]
 ·refine cD ?_ ?_<;>intro h2<;>simp (disch:=omega) only [Sh.out h2,go_sem,seval]
  ·grind [Qg]
  ·have l1:p.routes.length=q.routes.length:=Za
   have l2:p.unserved.length=q.unserved.length:=Za
   refine Zj [2,3] (fun k:Nat=> [(5,.p (.int .i64 k))]) (fun _=> [Zw p,Zw q]) (fun k=>k<=p.routes.length/\ ∀j,j<k->Y6 (nth p.routes j) (nth q.routes j)=true) (fun k=>p.routes.length-k) 0 Zb (Weak.mk ?_) ?_
   ·simp (disch:=omega) only [Zw,go_sem,seval]
   ·rintro k ⟨hk,hno⟩;simp (disch:=omega) only [Zw,go_sem,seval];refine cD ?_ ?_<;>intro h5<;>simp (disch:=omega) only [Sh.out h5,go_sem,seval,↓reduceIte]
    ·have hk2:k<p.routes.length:=Za
     refine Xs (Zf ?_);refine Zn (KM (nth p.routes k) (nth q.routes k) (hp.2.2 _ (Zu hk2)) (hq.2.2 _ (Zu Za))) (Zf ?_)
     cases hs:Y6 (nth p.routes k) (nth q.routes k) with
     | false =>
      rw [Qg fun h=>by grind];simp (disch:=omega) only [Bool.not_false,go_sem,seval]
     | true =>
      simp (disch:=omega) only [Bool.not_true,go_sem,seval];exact ⟨k+1,⟨Za,Zl.2 ⟨hno,hs⟩⟩,Za,wk⟩
    ·refine Zj [2,3] (fun k:Nat=> [(6,.p (.int .i64 k))]) (fun _=> [Zw p,Zw q]) (fun k=>k<=p.unserved.length/\ ∀j,j<k->nth p.unserved j=nth q.unserved j) (fun k=>p.unserved.length-k) 0 Zb (Weak.mk ?_) ?_
     ·simp (disch:=omega) only [Zw,go_sem,seval]
     ·rintro i ⟨hi,hno2⟩;simp (disch:=omega) only [Zw,go_sem,seval];refine cD ?_ ?_<;>intro h7<;>simp (disch:=omega) only [Sh.out h7,go_sem,seval,↓reduceIte]
      ·have hk2:i<p.unserved.length:=Za
       refine Xs (Zf ?_);refine ZX ?_ ?_<;>intro h8
       ·grind [Qg]
       ·exact ⟨i+1,⟨Za,Zl.2 ⟨hno2,Za⟩⟩,Za,wk⟩
      grind [As,YV]
def B9 (x:Inst) (t:Typ) (r:Rte) (c:Bool) (sp:List Stp):PV:= .agg [.list x.net.places_c (x.net.places.map eS),.list x.net.arcs_c (x.net.arcs.map Vd),.list x.types_c (x.types.map Vq),.list x.orders_c (x.orders.map Yz),.list x.apart_c (x.apart.map eP),.list x.before_c (x.before.map eP),.str t.name,.int .i64 t.count,.int .i64 t.src,.int .i64 t.dst,.list t.cap_c (t.cap.map eI),.int .i64 t.skills,.int .i64 t.prof,.int .i64 t.opn,.int .i64 t.cls,.int .i64 t.drive,.int .i64 t.rest,.int .i64 t.fixed,.int .i64 t.perMile,.int .i64 t.perTick,.int .i64 r.typ,.int .i64 r.start,.list r.rests_c (r.rests.map eB),.list r.visits_c (r.visits.map ZV),.list c (sp.map B8)]
@[go_sem] theorem rD (x:Inst) (t:Typ) (r:Rte) (c:Bool) (sp:List Stp):B9 x t r c sp= .agg [.list x.net.places_c (x.net.places.map eS),.list x.net.arcs_c (x.net.arcs.map Vd),.list x.types_c (x.types.map Vq),.list x.orders_c (x.orders.map Yz),.list x.apart_c (x.apart.map eP),.list x.before_c (x.before.map eP),.str t.name,.int .i64 t.count,.int .i64 t.src,.int .i64 t.dst,.list t.cap_c (t.cap.map eI),.int .i64 t.skills,.int .i64 t.prof,.int .i64 t.opn,.int .i64 t.cls,.int .i64 t.drive,.int .i64 t.rest,.int .i64 t.fixed,.int .i64 t.perMile,.int .i64 t.perTick,.int .i64 r.typ,.int .i64 r.start,.list r.rests_c (r.rests.map eB),.list r.visits_c (r.visits.map ZV),.list c (sp.map B8)]:=Eq.trans rfl rfl
def aA (x:Inst) (t:Typ) (r:Rte):List V:= [.p (.list x.net.places_c (x.net.places.map eS)),.p (.list x.net.arcs_c (x.net.arcs.map Vd)),.p (.list x.types_c (x.types.map Vq)),.p (.list x.orders_c (x.orders.map Yz)),.p (.list x.apart_c (x.apart.map eP)),.p (.list x.before_c (x.before.map eP)),.p (.str t.name),.p (.int .i64 t.count),.p (.int .i64 t.src),.p (.int .i64 t.dst),.p (.list t.cap_c (t.cap.map eI)),.p (.int .i64 t.skills),.p (.int .i64 t.prof),.p (.int .i64 t.opn),.p (.int .i64 t.cls),.p (.int .i64 t.drive),.p (.int .i64 t.rest),.p (.int .i64 t.fixed),.p (.int .i64 t.perMile),.p (.int .i64 t.perTick),.p (.int .i64 r.typ),.p (.int .i64 r.start),.p (.list r.rests_c (r.rests.map eB)),.p (.list r.visits_c (r.visits.map ZV))]
def Xp (x:Inst) (t:Typ) (r:Rte) (c:Bool) (sp:List Stp):AM.Obj:= .cells [.p (.list x.net.places_c (x.net.places.map eS)),.p (.list x.net.arcs_c (x.net.arcs.map Vd)),.p (.list x.types_c (x.types.map Vq)),.p (.list x.orders_c (x.orders.map Yz)),.p (.list x.apart_c (x.apart.map eP)),.p (.list x.before_c (x.before.map eP)),.p (.str t.name),.p (.int .i64 t.count),.p (.int .i64 t.src),.p (.int .i64 t.dst),.p (.list t.cap_c (t.cap.map eI)),.p (.int .i64 t.skills),.p (.int .i64 t.prof),.p (.int .i64 t.opn),.p (.int .i64 t.cls),.p (.int .i64 t.drive),.p (.int .i64 t.rest),.p (.int .i64 t.fixed),.p (.int .i64 t.perMile),.p (.int .i64 t.perTick),.p (.int .i64 r.typ),.p (.int .i64 r.start),.p (.list r.rests_c (r.rests.map eB)),.p (.list r.visits_c (r.visits.map ZV)),.p (.list c (sp.map B8))]
def aE : AM.Obj:= .cells [.p (.list true []),.p (.list true []),.p (.list true []),.p (.list true []),.p (.list true []),.p (.list true []),.p (.str []),.p (.int .i64 0),.p (.int .i64 0),.p (.int .i64 0),.p (.list true []),.p (.int .i64 0),.p (.int .i64 0),.p (.int .i64 0),.p (.int .i64 0),.p (.int .i64 0),.p (.int .i64 0),.p (.int .i64 0),.p (.int .i64 0),.p (.int .i64 0),.p (.int .i64 0),.p (.int .i64 0),.p (.list true []),.p (.list true []),.p (.list true [])]
def WW (L:Lab):PV:= .agg [.int .i64 L.ready,.int .i64 L.since,.bool L.she.rest,.int .i64 L.she.dep,.list L.she.times_c (L.she.times.map eTim),.int .i64 L.she.fin,.int .i64 L.she.miles]
@[go_sem] theorem qV (L:Lab):WW L= .agg [.int .i64 L.ready,.int .i64 L.since,.bool L.she.rest,.int .i64 L.she.dep,.list L.she.times_c (L.she.times.map eTim),.int .i64 L.she.fin,.int .i64 L.she.miles]:=Eq.trans rfl rfl
@[go_sem] theorem bE (l:List Lab):Js 7 (l.map WW)=true:=UK (f:=WW) (S:=7) (fun _=>rfl) l
def XL (L:Lab):AM.Obj:= .cells [.p (.int .i64 L.ready),.p (.int .i64 L.since),.p (.bool L.she.rest),.p (.int .i64 L.she.dep),.p (.list L.she.times_c (L.she.times.map eTim)),.p (.int .i64 L.she.fin),.p (.int .i64 L.she.miles)]
theorem HR (l:List Tim) (c:Bool) (hl:l.length<=1048576):ACalls Tryz.prog 235 [.p (.list c (l.map eTim))] [] fun x H'=>x= .sl 0 0 l.length l.length/\H'= [.elems 4 (l.map eTim)]:=by
 suffices hh:ACalls Tryz.prog 235 [.p (.list c (l.map eTim))] [] fun x H'=> ∃m:List Tim,m=l/\x= .sl 0 0 m.length m.length/\H'= [.elems 4 (m.map eTim)] by
  grind
 refine Zg [1] Tryz.func235 rfl Tb ?_;simp (disch:=omega) only [Tryz.f235,go_sem,seval];refine Z0 (Z0 (UN 1 rfl rfl ?_));refine ⟨_,NH (e:=28) rfl Tryz.underlying144 rfl (fun _=>rfl),?_⟩;rintro _ ⟨b,rfl,hb⟩;refine Zf ?_;refine Zd [] _ _ _ _ ?_
 cases b with
 | true =>
  have hn:l= []:=by simp_all
  subst hn;refine Zf ?_;exact ⟨_,_,Weak.ofNil 0 4 rfl Zb (wk),[],rfl,rfl,rfl⟩
 | false =>
  refine Zf ?_;refine Zd [] _ _ _ _ (Zf ?_);exact ⟨.sl 0 0 l.length l.length,[.elems 4 (l.map eTim)],wk,l,rfl,rfl,rfl⟩
theorem KS (x:Inst) (t:Typ) (r:Rte) (c:Bool) (sp:List Stp):PC 192 [.p (B9 x t r c sp)] (WW (Xz t r.start)):=by
 refine Zg [] Tryz.func192 rfl SK ?_;simp (disch:=omega) only [Tryz.f192,go_sem,seval];exact we (by simp (disch:=omega) only [Xz,zShe,List.map_nil,go_sem,seval])
theorem Ly (x:Inst) (t:Typ) (r:Rte) (c:Bool) (sp:List Stp) (k:Nat) (hk:k<=sp.length) (hl:sp.length<=1048576):PC 237 [.p (B9 x t r c sp),.p (.int .i64 (k:Nat))] (.int .i64 (GM t sp k)):=by
 refine Zc Tryz.func237 rfl Td ?_;simp (disch:=omega) only [Tryz.f237,go_sem,seval];refine cD ?_ ?_<;>intro h<;>simp (disch:=omega) only [Sh.out h,go_sem,seval,↓reduceIte]
 ·simp_all [GM]
 simp_all [GM]
theorem TO (x:Inst) (r:Rte) (hx:InstOk x) (hty:0<=r.typ/\r.typ<(x.types.length:Int)) (h0:Xi x r.visits=0) (hs:0<=r.start/\r.start<=4096) :
  PT 191 [.p (Xt x),.p (eRte r)] [.p (B9 x (Z1 x r) r false (XV x r.visits)),.p (.bool true)]:=by
 have hd:=U0 hx;have hsq:=Wm h0;have hol:=hd.ord;have htl:=hd.typ;have hvl:=hsq.len hol
 have e1: ¬r.typ<0:=Za
 have e2: ¬(x.types.length:Int)<=r.typ:=Za
 have e3: ¬r.start<0:=Za
 have e4: ¬ 4096<r.start:=Za
 have e5: ¬ 20<(r.visits.length:Int):=Za
 refine Zg [12] Tryz.func191 rfl IS ?_;simp (disch:=omega) only [Tryz.f191,e1,e2,e3,e4,e5,go_sem,seval];refine Y1 [9] 10 mixed Ze Ze Ze Zb (Zf ?_);refine Z8 9 _ _ Ze (by refine Zf ?_;exact ⟨rfl,rfl⟩) (YM ?_);refine Zf ?_
 refine ZH [12] [2,4,6,49,50] (fun q:Nat×List Stp=> [(51,.p (.int .i64 q.1))])
  (fun q=> [Zk x,ZN r,aE,.cells (aA x (Z1 x r) r++ [.sl 4 0 q.2.length q.2.length]),.elems 4 (q.2.map B8)])
  (fun q=>q.1<=r.visits.length/\q.2=(XV x r.visits).take q.1) (fun q=>r.visits.length-q.1) (0,[]) Zb ((Weak.nilC (o:=3) (j:=24) 4 rfl rfl Zb).trans (Weak.mk ?_)) ?_
 ·simp (disch:=omega) only [Zk,ZN,aE,aA,Z1,List.map_nil,List.length_nil,List.set_cons_succ,List.set_cons_zero,List.cons_append,List.nil_append,go_sem,seval]
 ·rintro ⟨k,o⟩ ⟨hk,ho⟩;simp only at hk ho
  have hol2:o.length=k:=by grind [XW]
  simp (disch:=omega) only [Zk,ZN,aE,aA,go_sem,seval];refine cD ?_ ?_<;>intro h1<;>simp (disch:=omega) only [Sh.out h1,go_sem,seval,↓reduceIte]
  ·have hk2:k<r.visits.length:=Za
   have hvis:=hsq.vis (ZQ hk2);simp only [Oq,Bool.and_eq_true,decide_eq_true_eq] at hvis
   have hsn:o++ [Y8 x (nth r.visits k)]=(XV x r.visits).take (k+1):=by
    rw [ho,List.take_succ_eq_append_getElem (by grind [XW]),<- Zi,Er hk2]
   have hnp: ¬(Y8 x (nth r.visits k)).place<0:=Za
   refine X3 (NT x (nth r.visits k) Za hvis.1 hvis.2) ?_;simp (disch:=omega) only [hnp,go_sem,seval];exact ⟨(k+1,o++ [Y8 x (nth r.visits k)]),⟨Za,hsn⟩,Za,Weak.mk (by simp (disch:=omega) only [List.length_append,List.length_cons,List.length_nil,List.map_append,List.map_cons,List.map_nil,go_sem,seval])⟩
  ·have hkl:k=r.visits.length:=Za
   subst hkl
   have hso:o=XV x r.visits:=by grind [XW]
   subst hso;refine Zr (Weak.fz (o:=4) (by rfl)) (Zd [] _ _ _ _ (Ql ?_));exact we
def CW (rd sn:Int) (m:She):AM.Obj:= .cells [.p (.int .i64 rd),.p (.int .i64 sn),.p (.bool m.rest),.p (.int .i64 m.dep),.sl 4 0 m.times.length m.times.length,.p (.int .i64 m.fin),.p (.int .i64 m.miles)]
theorem DC {P:Program} {H:List AM.Obj} {f ars} {a b d:PV} {B:V->Prop} {t} (h:ACalls P f ars [] fun x H'=>x= .tup [.p a,.p b,.p d]/\H'= []) (k:B (.tup [.p a,.p b,.p d])) (ha:ZE 0 ars=true:=by rfl) :
  M7 (fun y=>ACalls P f ars H (Zp (Zp (fun x H'=>x=y/\H'=H) ⟨⟩) ⟨⟩)) (Zp B t) :=
 ⟨.tup [.p a,.p b,.p d],(h.behind ha H).mono fun x H' hq=>by
  obtain ⟨y,H1,⟨rfl,rfl⟩,rfl,rfl⟩:=hq
  simp [Vb,Wf,Zp],k⟩
theorem TA (x:Inst) (t:Typ) (r:Rte) (c:Bool) (sp:List Stp) (hok:TrpOk x t sp) (k:Nat) (hk:k<=sp.length) (hs1:0<sp.length) (L:Lab) (hL:LabR k L) (hlen:L.she.times.length=k) (hclip:0<k->L.she.times_c=false) (b:Bool) :
  PT 222 [.p (B9 x t r c sp),.p (WW L),.p (.int .i64 (k:Nat)),.p (.bool b)] [.p (WW (X4 x t sp k L b).1),.p (.int .i64 (X4 x t sp k L b).2)]:=by
 have hd:=JD hok hL b;have hsn:=CX hL b;have hg:=E6 hok hL b;have hmi:=hL.mil;have hrd:=hL.rdy;have hsnL:=hL.snc;have hsl:=hok.len;have hrst:=hok.rst;unfold X4;have hmm:= @QZ k (Xr t L b) b L.she;have hmf:= @Gz k (Xr t L b) b L.she;have hml:= @QD k (Xr t L b) b L.she;refine Zg [2,7,14,31] Tryz.func222 rfl S5 ?_;simp (disch:=omega) only [Tryz.f222,go_sem,seval];refine Xs (Zf ?_);refine Zq [2,3,4,5,8] (fun _:Unit=> [(10,.p (.int .i64 (Xr t L b))),(11,.p (.int .i64 (V8 L b)))]) (fun _=> [Xp x t r c sp,XL L,XL XX]) (fun _=>True) ?_ ?_
 ·refine Zf ?_;refine ZX ?_ ?_<;>intro h
  ·subst h;exact ⟨(),Weak.mk (by simp (disch:=omega) only [Xp,XL,XX,zShe,Xr,V8,List.map_nil,go_sem,seval,↓reduceIte])⟩
  ·subst h;exact ⟨(),Weak.mk (by simp (disch:=omega) only [Xp,XL,XX,zShe,Xr,V8,List.map_nil,go_sem,seval,↓reduceIte])⟩
 ·intro _ _;refine Zd [7,14,31] _ _ _ _ ?_;simp (disch:=omega) only [Xp,XL,XX,zShe,List.map_nil,go_sem,seval];refine (HR L.she.times L.she.times_c Za).useF (Zf ?_)
  generalize hM:XU k (Xr t L b) b L.she=M at *
  refine Zq [2,4,8,10,11,12] (fun _:Unit=> []) (fun _=> [Xp x t r c sp,XL L,XL XX,CW 0 0 M,.elems 4 (M.times.map eTim)]) (fun _=>True) ?_ ?_
  ·refine Zf ?_;refine ZX ?_ ?_<;>intro h
   ·have hk0:k=0:=Za
    subst hk0
    have e:M= { L.she with rest:=b,dep:=Xr t L b } :=by rw [<- hM,XU,if_pos rfl]
    rw [e];exact ⟨(),Weak.mk (by simp (disch:=omega) only [Xp,XL,XX,zShe,CW,List.map_nil,go_sem,seval])⟩
   ·have e1:((k:Int)-1).toNat=k-1:=Za
    have hk1:k-1<L.she.times.length:=Za
    have E9:(L.she.times.map eTim).set (k-1) (PV.agg [.int .i64 (nth L.she.times (k-1)).arr,.int .i64 (nth L.she.times (k-1)).beg,.int .i64 (nth L.she.times (k-1)).dep,.bool b])=(L.she.times.set (k-1) { nth L.she.times (k-1) with rest:=b }).map eTim:=by
     rw [List.map_set];rfl
    have hn1:nth (L.she.times.set (k-1) { nth L.she.times (k-1) with rest:=b }) (k-1)= { nth L.she.times (k-1) with rest:=b } :=by
     grind [Zi]
    have hl1:(L.she.times.set (k-1) { nth L.she.times (k-1) with rest:=b }).length=L.she.times.length:=Zb
    have hMt:M.times=(L.she.times.set (k-1) { nth L.she.times (k-1) with rest:=b }).set (k-1) { nth (L.she.times.set (k-1) { nth L.she.times (k-1) with rest:=b }) (k-1) with dep:=Xr t L b } :=by
     rw [hn1,List.set_set,<- hM,XU,if_neg Za];rfl
    have hM2:M.rest=L.she.rest/\M.dep=L.she.dep:=by rw [<- hM,XU,if_neg Za];simp
    simp (disch:=first | omega | (simp only [List.length_cons,List.length_nil,List.length_append,List.length_map,List.length_take,List.length_drop]<;>omega)) only [e1,go_sem,seval,↓reduceIte];rw [E9]
    generalize L.she.times.set (k-1) { nth L.she.times (k-1) with rest:=b } =l1 at *
    simp (disch:=first | omega | (simp only [List.length_cons,List.length_nil,List.length_append,List.length_map,List.length_take,List.length_drop]<;>omega)) only [e1,hl1,eq_self,decide_true,go_sem,seval];refine ⟨(),Weak.mk ?_⟩;simp (disch:=omega) only [Xp,XL,XX,zShe,CW,List.map_nil,hM2.1,hM2.2,hmm,hmf,hml,go_sem,seval];rw [hMt,List.map_set]
    rfl
  ·intro _ _;refine Zd [14,31] _ _ _ _ ?_;simp (disch:=omega) only [Xp,XL,XX,zShe,CW,List.map_nil,go_sem,seval];refine Zq [2,4,8,10,11,12,13] (fun _:Unit=> [(14,.p (.int .i64 (Pd t sp k)))]) (fun _=> [Xp x t r c sp,XL L,XL XX,CW 0 0 M,.elems 4 (M.times.map eTim)]) (fun _=>True) ?_ ?_
   ·refine Zf ?_;refine ZX ?_ ?_<;>intro h
    ·have e:Pd t sp k=(nth sp k).place:=by rw [Pd,if_neg Za]
     exact ⟨(),Weak.mk (by simp (disch:=omega) only [Xp,XL,XX,zShe,CW,List.map_nil,e,go_sem,seval])⟩
    ·have e:Pd t sp k=t.dst:=by rw [Pd,if_pos Za]
     exact ⟨(),Weak.mk (by simp (disch:=omega) only [Xp,XL,XX,zShe,CW,List.map_nil,e,go_sem,seval])⟩
   ·intro _ _;refine Zd [31] _ _ _ _ ?_;simp (disch:=omega) only [Xp,XL,XX,zShe,CW,List.map_nil,go_sem,seval];refine Xs (Zf ?_);refine Zn (Ly x t r c sp k hk Za) (Zf ?_);refine DC (nZ x.net t.prof (GM t sp k) (Pd t sp k) (Xr t L b) hok.net Za) (Zf ?_);have hG:Bv x.net t.prof (GM t sp k) (Pd t sp k) (Xr t L b)=IK x t sp k (Xr t L b):=rfl;rw [hG];clear hG
    generalize IK x t sp k (Xr t L b)=g at *
    generalize Xr t L b=d at *
    generalize V8 L b=s at *
    refine cD ?_ ?_<;>intro h1<;>simp (disch:=omega) only [Sh.out h1,go_sem,seval,↓reduceIte]
    ·have e:Wq t sp k g d s M=(XX,12):=by rw [Wq,if_pos h1]
     rw [e];exact we (by simp (disch:=omega) only [XX,zShe,List.map_nil,go_sem,seval])
    ·refine cD ?_ ?_<;>intro h2<;>simp (disch:=omega) only [Sh.out h2,go_sem,seval,↓reduceIte]
     ·refine cD ?_ ?_<;>intro h3<;>simp (disch:=omega) only [Sh.out h3,go_sem,seval,↓reduceIte]
      ·have e:Wq t sp k g d s M=(XX,15):=by rw [Wq,if_neg h1,if_pos Za,if_pos h3]
       rw [e];exact we (by simp (disch:=omega) only [XX,zShe,List.map_nil,go_sem,seval])
      ·refine Zr (Weak.fz (o:=4) (by rfl)) (Zd [] _ _ _ _ (Ql ?_));refine cD ?_ ?_<;>intro h4<;>simp (disch:=omega) only [Sh.out h4,go_sem,seval,↓reduceIte]
       ·have e:Wq t sp k g d s M=(XX,16):=by rw [Wq,if_neg h1,if_pos Za,if_neg h3,if_pos h4]
        rw [e];exact we (by simp (disch:=omega) only [XX,zShe,List.map_nil,go_sem,seval])
       ·have e:Wq t sp k g d s M=(⟨g.1,s+g.1-d,{ M with fin:=g.1,miles:=M.miles+g.2.1 }⟩,0):=by rw [Wq,if_neg h1,if_pos Za,if_neg h3,if_neg h4]
        have hMc:M.times_c=false:=by
         rw [<- hM,XU,if_neg Za]
         grind
        rw [e];exact we (by simp (disch:=omega) only [hMc,go_sem,seval])
     ·have h2': ¬k=sp.length:=Za
      have hkl:k<sp.length:=Za
      have hstp:=hok.stp _ (Zu hkl);refine X3 (MU (nth sp k) g.1) ?_;unfold Du
      by_cases h3:(nth sp k).cls<max g.1 (nth sp k).opn
      ·have e:Wq t sp k g d s M=(XX,14):=by simp_all [Wq]
       rw [e,if_pos h3];refine Zf ?_;exact we (by simp (disch:=omega) only [XX,zShe,List.map_nil,go_sem,seval])
      ·rw [if_neg h3];refine Zf ?_;refine Zr (Weak.fz (o:=4) (by rfl)) (Zd [] _ _ _ _ (Ql ?_));refine cD ?_ ?_<;>intro h4<;>simp (disch:=omega) only [Sh.out h4,go_sem,seval,↓reduceIte]
       ·have e:Wq t sp k g d s M=(XX,16):=by simp_all [Wq]
        rw [e];exact we (by simp (disch:=omega) only [XX,zShe,List.map_nil,go_sem,seval])
       ·have e:Wq t sp k g d s M=(⟨max g.1 (nth sp k).opn+(nth sp k).serv,s+g.1-d,{ M with times_c:=false,times:=M.times++ [⟨g.1,max g.1 (nth sp k).opn,0,false⟩],miles:=M.miles+g.2.1 }⟩,0):=by simp_all [Wq,if_neg]
        rw [e];exact we
theorem GF {x t sp k L b} (hs:0<sp.length) (hc:0<k->L.she.times_c=false) (he:(X4 x t sp k L b).2=0):(X4 x t sp k L b).1.she.times_c=false:=by
 have hm:0<k->(XU k (Xr t L b) b L.she).times_c=false:=fun h=>by rw [XU,if_neg Za];exact hc h
 unfold X4 at he ⊢
 generalize IK x t sp k (Xr t L b)=g at *
 generalize Xr t L b=d at *
 generalize V8 L b=s at *
 generalize XU k d b L.she=m at *
 unfold Wq at he ⊢
 grind
structure LabO (n k:Nat) (L:Lab):Prop where
 rng:LabR k L
 len:k<=n->L.she.times.length=k
 clip:0<k->L.she.times_c=false
theorem Aa {x t sp k L b} (hok:TrpOk x t sp) (hs:0<sp.length) (hk:k<=sp.length) (h:LabO sp.length k L) (he:(X4 x t sp k L b).2=0):LabO sp.length (k+1) (X4 x t sp k L b).1 :=
 ⟨Fm hok hk h.rng he,fun hk2=>J3 (h.len hk) he Za,fun _=>GF hs h.clip he⟩
theorem Ab {x t sp} (hok:TrpOk x t sp) {st:Int} (hst:0<=st/\st<=4096):LabO sp.length 0 (Xz t st) :=
 ⟨⟨by have:=hok.opn;grind [Xz],by simp [Xz],by simp [Xz,zShe]⟩,fun _=>rfl,fun h=>Za⟩
theorem Fl (x:Inst) (t:Typ) (r:Rte) (c:Bool) (sp:List Stp) (hok:TrpOk x t sp) (k:Nat) (hk:k<=sp.length) (hs1:0<sp.length) (L:Lab) (hL:LabO sp.length k L) (b:Bool) :
  PT 222 [.p (B9 x t r c sp),.p (WW L),.p (.int .i64 (k:Nat)),.p (.bool b)] [.p (WW (X4 x t sp k L b).1),.p (.int .i64 (X4 x t sp k L b).2)] :=
 TA x t r c sp hok k hk hs1 L hL.rng (hL.len hk) hL.clip b
theorem oH (x:Inst) (t:Typ) (r:Rte) (c:Bool) (sp:List Stp) (hok:TrpOk x t sp) (hs1:0<sp.length) (hst:0<=r.start/\r.start<=4096) (bs:List Bool) (d:Bool) (hb:bs.length=sp.length+1) :
  PT 194 [.p (B9 x t r c sp),.p (.list d (bs.map eB))] [.p (Gh (XJ x t sp 0 (Xz t r.start) bs).1.she),.p (.int .i64 (XJ x t sp 0 (Xz t r.start) bs).2)]:=by
 have hsl:=hok.len;refine Zg [] Tryz.func194 rfl SM ?_;simp (disch:=omega) only [Tryz.f194,go_sem,seval];refine (KS x t r c sp).use (Zf ?_)
 refine Zj [2,4,6,13,14] (fun q:Nat×Lab=> [(15,.p (.int .i64 q.1))]) (fun q=> [Xp x t r c sp,.cells [.p (.bool false),.p (.int .i64 0),.p (.list true []),.p (.int .i64 0),.p (.int .i64 0)],XL q.2])
  (fun q=>q.1<=bs.length/\XJ x t sp 0 (Xz t r.start) bs=XJ x t sp q.1 q.2 (bs.drop q.1)/\LabO sp.length q.1 q.2) (fun q=>bs.length-q.1) (0,Xz t r.start) ⟨Zb,Zb,Ab hok hst⟩ (Weak.mk ?_) ?_
 ·simp (disch:=omega) only [Xp,XL,go_sem,seval]
 ·rintro ⟨k,L⟩ ⟨hk,hrun,hL⟩;simp only at hk hrun hL;simp (disch:=omega) only [Xp,XL,go_sem,seval];refine cD ?_ ?_<;>intro h1<;>simp (disch:=omega) only [Sh.out h1,go_sem,seval,↓reduceIte]
  ·have hk2:k<bs.length:=Za
   have hdrop:bs.drop k=nth bs k::bs.drop (k+1):=by rw [List.drop_eq_getElem_cons hk2,Zi hk2]
   rw [hdrop,XJ] at hrun;have cn:=Fl x t r c sp hok k Za hs1 L hL (nth bs k);have hL2:=Aa (x:=x) (t:=t) (b:=nth bs k) hok hs1 Za hL
   generalize X4 x t sp k L (nth bs k)=N at *
   refine X3 cn (Zf ?_);refine ZX ?_ ?_<;>intro h2
   ·rw [hrun,if_neg h2];exact we (by simp (disch:=omega) only [XX,zShe,List.map_nil,go_sem,seval])
   ·rw [if_pos Za] at hrun;exact ⟨(k+1,N.1),⟨Za,hrun,hL2 Za⟩,Za,wk⟩
  ·have hkl:k=bs.length:=Za
   subst hkl;rw [List.drop_length,XJ] at hrun;rw [hrun];exact we
theorem MT (l m:Lab):PC 225 [.p (WW l),.p (WW m)] (.bool (ZB l m)):=by
 refine Zc Tryz.func225 rfl S8 ?_;simp (disch:=omega) only [Tryz.f225,go_sem,seval];refine gT ?_ ?_<;>intro h<;>simp (disch:=omega) only [Sh.out h,go_sem,seval,↓reduceIte]
 ·simp [ZB,h]
 ·simp [ZB,h]
def gH (x:Inst) (t:Typ) (r:Rte) (c:Bool) (sp:List Stp) (o:List Lab) (f z:Lab):List AM.Obj:= [Xp x t r c sp,.dead,.elems 7 (o.map WW),XL f,XL z]
theorem Np (x:Inst) (t:Typ) (r:Rte) (c:Bool) (sp:List Stp) (o:List Lab) (f z m:Lab):ACalls Tryz.prog 224 [.p (WW m),.ptr 4 0] (gH x t r c sp o f z) fun y H'=>y= .p (.bool (ZB m z))/\H'=gH x t r c sp o f z:=by
 refine Zg [] Tryz.func224 rfl S7 ?_;simp (disch:=omega) only [Tryz.f224,gH,Xp,XL,go_sem,seval];refine (MT m z).use (Zf ?_);exact we
theorem DJ (x:Inst) (t:Typ) (r:Rte) (c:Bool) (sp:List Stp) (o:List Lab) (f z:Lab) (hl:o.length<=2097152) :
  ACalls Tryz.prog 239 [.sl 2 0 o.length o.length,.fn (.func 224) [] [.ptr 4 0]] (gH x t r c sp o f z) fun y H'=>y= .p (.int .i64 (OY (fun m=>ZB m z) o))/\H'=gH x t r c sp o f z:=by
 refine Zg [] Tryz.func239 rfl Tf ?_;simp (disch:=omega) only [Tryz.f239,gH,Xp,XL,go_sem,seval];refine Zj [0,1,7] (fun k:Nat=> [(8,.p (.int .i64 k))]) (fun _=>gH x t r c sp o f z) (fun k=>k<=o.length/\ ∀j,j<k->ZB (nth o j) z=false) (fun k=>o.length-k) 0 Zb (Weak.mk ?_) ?_
 ·simp (disch:=omega) only [gH,Xp,XL,go_sem,seval,↓reduceIte]
 ·rintro k ⟨hk,hno⟩;simp (disch:=omega) only [gH,Xp,XL,go_sem,seval];refine cD ?_ ?_<;>intro h<;>simp (disch:=omega) only [Sh.out h,go_sem,seval,↓reduceIte]
  ·have hk2:k<o.length:=Za
   have hg:=Np x t r c sp o f z (nth o k);simp (disch:=first | omega | (simp only [List.length_cons,List.length_nil,List.length_append,List.length_map,List.length_take,List.length_drop]<;>omega)) only [Xe hk2,hk2,go_sem,seval,↓reduceIte];simp (disch:=omega) only [gH,Xp,XL,go_sem,seval] at hg;refine hg.useH (Zf ?_);refine cD ?_ ?_<;>intro h2<;>simp (disch:=omega) only [Sh.out h2,go_sem,seval,↓reduceIte]
   ·rw [IA (f:=fun m=>ZB m z) hk2 h2 hno];exact we
   ·exact ⟨k+1,⟨Za,Zl.2 ⟨hno,Za⟩⟩,Za,wk⟩
  ·have hkl:k=o.length:=Za
   subst hkl;rw [IC hno];exact we
theorem KI (x:Inst) (t:Typ) (r:Rte) (c:Bool) (sp:List Stp) (o:List Lab) (f z:Lab) (hl:o.length<=2097152) :
  ACalls Tryz.prog 223 [.sl 2 0 o.length o.length,.fn (.func 224) [] [.ptr 4 0]] (gH x t r c sp o f z) fun y H'=>y= .p (.bool (o.any fun m=>ZB m z))/\H'=gH x t r c sp o f z:=by
 refine Zg [] Tryz.func223 rfl S6 ?_;simp (disch:=omega) only [Tryz.f223,go_sem,seval];refine (DJ x t r c sp o f z hl).useH (Zf ?_);rw [IB];exact we (by simp (disch:=omega) only [gH,Xp,XL,go_sem,seval])
def Ge (x:Inst) (t:Typ) (sp:List Stp) (r:List Bool) (k:Nat) (f:Lab) (bs:List Bool) (l:List Lab):List Lab:=bs.filterMap (Xh x t sp k f)++XZ (Xh x t sp) (YD r) k l
theorem RB (x:Inst) (t:Typ) (r:Rte) (c:Bool) (sp:List Stp) (hok:TrpOk x t sp) (hs1:0<sp.length) (k:Nat) (hk:k<=sp.length) (hrl:r.rests.length<=1048576) (l:List Lab) (d:Bool) (hl:l.length<=1048576) (hL: ∀L∈l,LabO sp.length k L) :
  PC 193 [.p (B9 x t r c sp),.p (.list d (l.map WW)),.p (.int .i64 (k:Nat))] (.list false ((ZZ ZB [] (XZ (Xh x t sp) (YD r.rests) k l)).map WW)):=by
 have hsl:=hok.len;refine Zg [2,16] Tryz.func193 rfl SL ?_;simp (disch:=omega) only [Tryz.f193,go_sem,seval];refine Zr (Weak.fz (o:=1) (by rfl)) (Ql ?_);refine Zq [1,2,3] (fun cb:Bool=> [(7,.p (.list cb ((YD r.rests k).map eB)))]) (fun _=> [Xp x t r c sp,.dead]) (fun _=>True) ?_ ?_
 ·refine Zf ?_;refine ZX ?_ ?_<;>intro h
  ·have hk2:k<r.rests.length:=Za
   have e:YD r.rests k=(r.rests.take (k+1)).drop k:=by
    grind [YD,List.take_succ_eq_append_getElem]
   exact ⟨r.rests_c&&decide ((k:Int)+1=(r.rests.length:Int)),Weak.mk (by simp (disch:=omega) only [Xp,e,go_sem,seval])⟩
  ·have e:YD r.rests k= [false,true]:=by grind [YD]
   exact ⟨false,Weak.mk (by simp (disch:=omega) only [Xp,e,List.map_cons,List.map_nil,go_sem,seval])⟩
 ·intro cb _
  have hch:(YD r.rests k).length<=2:=by grind [YD]
  refine Zd [16] _ _ _ _ ?_;simp (disch:=omega) only [Xp,go_sem,seval]
  refine ZH [16] [2,3,7,29,30] (fun q:Nat×List Lab=> [(8,.sl 2 0 q.2.length q.2.length),(31,.p (.int .i64 q.1))]) (fun q=> [Xp x t r c sp,.dead,.elems 7 (q.2.map WW)])
   (fun q=>q.1<=l.length/\ZZ ZB [] (XZ (Xh x t sp) (YD r.rests) k l)=ZZ ZB q.2 (XZ (Xh x t sp) (YD r.rests) k (l.drop q.1))/\q.2.length<=2*q.1) (fun q=>l.length-q.1) (0,[]) Zb (Weak.ofNil 8 7 rfl Zb (Weak.mk ?_)) ?_
  ·simp (disch:=omega) only [Xp,List.map_nil,List.length_nil,go_sem,seval]
  ·rintro ⟨i,o⟩ ⟨hi,hpr,hol⟩;simp only at hi hpr hol;simp (disch:=omega) only [Xp,go_sem,seval];refine cD ?_ ?_<;>intro h1<;>simp (disch:=omega) only [Sh.out h1,go_sem,seval,↓reduceIte]
   ·have hi2:i<l.length:=Za
    have hLi:=hL _ (Zu hi2)
    have hdrop:l.drop i=nth l i::l.drop (i+1):=by rw [List.drop_eq_getElem_cons hi2,Zi hi2]
    rw [hdrop] at hpr;have hpr:ZZ ZB [] (XZ (Xh x t sp) (YD r.rests) k l)=ZZ ZB o (Ge x t sp r.rests k (nth l i) ((YD r.rests k).drop 0) (l.drop (i+1))):=hpr
    refine Zj [2,3,7,10,29,30,31,35,36] (fun q:Nat×List Lab=> [(8,.sl 2 0 q.2.length q.2.length),(37,.p (.int .i64 q.1))]) (fun q=> [Xp x t r c sp,.dead,.elems 7 (q.2.map WW),XL (nth l i)])
     (fun q=>q.1<=(YD r.rests k).length/\ZZ ZB [] (XZ (Xh x t sp) (YD r.rests) k l)=ZZ ZB q.2 (Ge x t sp r.rests k (nth l i) ((YD r.rests k).drop q.1) (l.drop (i+1)))/\q.2.length<=2*i+q.1) (fun q=>(YD r.rests k).length-q.1) (0,o) ⟨Zb,hpr,hol⟩ (Weak.mk ?_) ?_
    ·simp (disch:=omega) only [Xp,XL,go_sem,seval]
    ·clear hpr hol;rintro ⟨j,o⟩ ⟨hj,hpr,hol⟩;simp only at hj hpr hol;simp (disch:=omega) only [Xp,XL,go_sem,seval];refine ZX ?_ ?_<;>intro h2
     ·have hj2:j<(YD r.rests k).length:=Za
      have hd2:(YD r.rests k).drop j=nth (YD r.rests k) j::(YD r.rests k).drop (j+1):=by rw [List.drop_eq_getElem_cons hj2,Zi hj2]
      have cn:=Fl x t r c sp hok k hk hs1 (nth l i) hLi (nth (YD r.rests k) j);have ho2:Xh x t sp k (nth l i) (nth (YD r.rests k) j)=if (X4 x t sp k (nth l i) (nth (YD r.rests k) j)).2=0 then some (X4 x t sp k (nth l i) (nth (YD r.rests k) j)).1 else none:=rfl;rw [hd2,Ge,List.filterMap_cons,ho2] at hpr
      generalize X4 x t sp k (nth l i) (nth (YD r.rests k) j)=N at *
      refine X3 cn (Zf ?_);refine jW ?_ ?_<;>intro h3
      ·have hcl:=KI x t r c sp o (nth l i) N.1 Za;simp (disch:=omega) only [gH,Xp,XL,go_sem,seval] at hcl;refine hcl.useH (Zf ?_);rw [if_pos h3] at hpr;have hpr:ZZ ZB [] (XZ (Xh x t sp) (YD r.rests) k l)=if (o.any fun m=>ZB m N.1)=true then ZZ ZB o (Ge x t sp r.rests k (nth l i) ((YD r.rests k).drop (j+1)) (l.drop (i+1))) else ZZ ZB (o++ [N.1]) (Ge x t sp r.rests k (nth l i) ((YD r.rests k).drop (j+1)) (l.drop (i+1))):=hpr;refine ZX ?_ ?_<;>intro h4
       ·rw [if_neg (by grind)] at hpr;exact ⟨(j+1,o++ [N.1]),⟨Za,hpr,by simp;omega⟩,Za,Weak.mk (by simp (disch:=omega) only [List.length_append,List.length_cons,List.length_nil,List.map_append,List.map_cons,List.map_nil,go_sem,seval])⟩
       ·rw [if_pos (by grind)] at hpr;exact ⟨(j+1,o),⟨Za,hpr,by grind⟩,Za,wk⟩
      ·rw [if_neg h3] at hpr;exact ⟨(j+1,o),⟨Za,hpr,by grind⟩,Za,wk⟩
     ·have hjl:j=(YD r.rests k).length:=Za
      subst hjl;rw [List.drop_length,Ge,List.filterMap_nil,List.nil_append] at hpr;exact ⟨(i+1,o),⟨Za,hpr,by grind⟩,Za,wk⟩
   ·have hil:i=l.length:=Za
    subst hil;have e:XZ (Xh x t sp) (YD r.rests) k []= []:=rfl;rw [List.drop_length,e,ZZ] at hpr;rw [hpr];refine Zr (Weak.fz (o:=2) (by rfl)) (Zd [] _ _ _ _ (Ql ?_));exact we
def M5 : PV:= .agg [.list true [],.list true [],.list true [],.list true [],.list true [],.list true [],.str [],.int .i64 0,.int .i64 0,.int .i64 0,.list true [],.int .i64 0,.int .i64 0,.int .i64 0,.int .i64 0,.int .i64 0,.int .i64 0,.int .i64 0,.int .i64 0,.int .i64 0,.int .i64 0,.int .i64 0,.list true [],.list true [],.list true []]
theorem NX (x:Inst) (r:Rte) (hty:0<=r.typ/\r.typ<(x.types.length:Int)) (htl:x.types.length<=1048576) (hvl:r.visits.length<=20) (hs: ¬(0<=r.start/\r.start<=4096)) :
  PT 191 [.p (Xt x),.p (eRte r)] [.p M5,.p (.bool false)]:=by
 have e1: ¬r.typ<0:=Za
 have e2: ¬(x.types.length:Int)<=r.typ:=Za
 refine Zg [] Tryz.func191 rfl IS ?_;simp (disch:=omega) only [Tryz.f191,e1,e2,go_sem,seval];refine gF ?_ ?_<;>intro h1<;>simp (disch:=omega) only [Sh.out h1,go_sem,seval,↓reduceIte]
 ·exact we (by simp (disch:=omega) only [M5,go_sem,seval])
 ·refine gF ?_ ?_<;>intro h2<;>simp (disch:=omega) only [Sh.out h2,go_sem,seval,↓reduceIte]
  ·exact we (by simp (disch:=omega) only [M5,go_sem,seval])
  ·omega
theorem CI {x t sp} : ∀(bs:List Bool) (k:Nat) (L:Lab),¬(XJ x t sp k L bs).2=0->(XJ x t sp k L bs).1=XX
 | [],k,L,h=>by simp [XJ] at h
 | b::bs,k,L,h=>by
  rw [XJ] at h ⊢
  split
  ·rename_i c;rw [if_pos c] at h;exact CI bs (k+1) _ h
  ·rfl
theorem Gn (n:Nat):List.replicate n false∈XD (List.replicate n false):=by
 rw [Uw];simp
theorem Iw {l:List Lab} (h:Wa Yj none l=none):l= []:=by
 cases l with
 | nil=>rfl
 | cons a l =>
  obtain ⟨z,hz,_⟩:=Vt (fin:=Yj) l a;have:Wa Yj none (a::l)=Wa Yj (some a) l:=rfl
  grind
theorem Gb {x t sp} {st:Int} {r:List Bool} (h:Wa Yj none ((Wy r (sp.length+1)).filterMap (UC (Xh x t sp) 0 (Xz t st)))=none): ¬(XJ x t sp 0 (Xz t st) (V5 r (sp.length+1))).2=0:=fun h0=>by
 have h1:=Iw h;have h2:V5 r (sp.length+1)∈Wy r (sp.length+1):=List.mem_map.2 ⟨_,Gn _,rfl⟩
 simp_all [VE]
theorem Dv {x t sp} {st:Int} {r:List Bool} (hr:r.length<=sp.length+1) (h:Wa Yj none (W8 ZB (Xh x t sp) (YD r) (sp.length+1) 0 [Xz t st])=none): ¬(XJ x t sp 0 (Xz t st) (V5 r (sp.length+1))).2=0 :=
 Gb (by rw [Ac,Yb,K2 r _ hr] at h;exact h)
def WC (x:Inst) (r:Rte):She×Int:=if 0<=r.start/\r.start<=4096/\r.rests.length<=r.visits.length+1 then XK x r else (zShe,2)
theorem HJ {x t sp} {ch:Nat->List Bool} {k:Nat} {l:List Lab} (hok:TrpOk x t sp) (hs:0<sp.length) (hk:k<=sp.length) (h: ∀L∈l,LabO sp.length k L): ∀L∈ZZ ZB [] (XZ (Xh x t sp) ch k l),LabO sp.length (k+1) L:=fun L hL=>by
 have h1:=VW ZB _ _ L hL;rw [List.nil_append] at h1;obtain ⟨a,ha,hb⟩:=List.mem_flatMap.1 h1
 grind [Xh,Aa]
theorem QH : ∀(c out:List Lab),(ZZ ZB out c).length<=out.length+c.length
 | [],out=>by simp [ZZ]
 | x::c,out=>by
  rw [ZZ]
  split
  ·have:=QH c out;simp;omega
  ·have:=QH c (out++ [x]);simp at this ⊢;omega
theorem KT {x t sp} {r:List Bool} {k:Nat} : ∀l:List Lab,(XZ (Xh x t sp) (YD r) k l).length<=2*l.length
 | []=>by simp [XZ]
 | a::l=>by
  have ih:=KT (x:=x) (t:=t) (sp:=sp) (r:=r) (k:=k) l;have h1:(XZ (Xh x t sp) (YD r) k (a::l))=(YD r k).filterMap (Xh x t sp k a)++XZ (Xh x t sp) (YD r) k l:=rfl
  grind [YD]
theorem NP (x:Inst) (r:Rte) (hx:InstOk x) (hl:r.visits.length<=1048576) (hrl:r.rests.length<=1048576) (hty:0<=r.typ/\r.typ<(x.types.length:Int)) (h0:Xi x r.visits=0) :
  PT 156 [.p (Xt x),.p (eRte r)] [.p (Gh (WC x r).1),.p (.int .i64 (WC x r).2)]:=by
 have hd:=U0 hx;have hsq:=Wm h0;have hol:=hd.ord;have htl:=hd.typ;have hvl:=hsq.len hol;have hok:=Kv hx hty hsq;have hsl:(XV x r.visits).length=r.visits.length:=XW
 have hs1:0<(XV x r.visits).length:=by
  rw [hsl];have:=hsq.ne
  grind
 refine Zg [6,13,14] Tryz.func156 rfl Sn ?_;simp (disch:=omega) only [Tryz.f156,go_sem,seval]
 by_cases hs:0<=r.start/\r.start<=4096
 ·refine X3 (TO x r hx hty h0 hs) (Zf ?_);refine cD ?_ ?_<;>intro h1<;>simp (disch:=omega) only [Sh.out h1,go_sem,seval,↓reduceIte]
  ·have e:WC x r=(zShe,2):=by rw [WC,if_neg Za]
   rw [e];exact we (by simp (disch:=omega) only [zShe,List.map_nil,go_sem,seval])
  ·have hrs:r.rests.length<=r.visits.length+1:=Za
   have e:WC x r=XK x r:=by simp_all [WC]
   have hbn:= @Dv x (Z1 x r) (XV x r.visits) r.start r.rests Za;rw [e,XK,AN Za];refine (KS x (Z1 x r) r false (XV x r.visits)).use (Zf ?_)
   generalize hT:Z1 x r=t at *
   generalize hS:XV x r.visits=sp at *
   refine Zr (Weak.fz (o:=4) (by rfl)) ?_;refine Zd [13,14] _ _ _ _ (Zf ?_)
   refine ZH [13,14] [3,4,6,8,38] (fun q:Nat×List Lab=> [(9,.p (.list false (q.2.map WW))),(39,.p (.int .i64 q.1))]) (fun _=> [Zk x,ZN r,.cells [.p (.bool false),.p (.int .i64 0),.p (.list true []),.p (.int .i64 0),.p (.int .i64 0)],Xp x t r false sp,.dead])
    (fun q=>q.1<=sp.length+1/\W8 ZB (Xh x t sp) (YD r.rests) (sp.length+1) 0 [Xz t r.start]=W8 ZB (Xh x t sp) (YD r.rests) (sp.length+1-q.1) q.1 q.2/\(∀L∈q.2,LabO sp.length q.1 L)/\q.2.length<=2^q.1) (fun q=>sp.length+1-q.1) (0,[Xz t r.start]) ⟨Zb,Zb,fun L hL=>by grind [Ab],Zb⟩ (Weak.mk ?_) ?_
   ·simp (disch:=omega) only [Zk,ZN,Xp,List.map_cons,List.map_nil,List.set_cons_succ,List.set_cons_zero,go_sem,seval]
   ·rintro ⟨k,l⟩ ⟨hk,hit,hlo,hll⟩;simp only at hk hit hlo hll;simp (disch:=omega) only [Zk,ZN,Xp,go_sem,seval];refine cD ?_ ?_<;>intro h2<;>simp (disch:=omega) only [Sh.out h2,go_sem,seval,↓reduceIte]
    ·have hk2:k<=sp.length:=Za
     have hp20:2^k<=2^20:=Nat.pow_le_pow_right Za Za;refine (RB x t r false sp hok hs1 k hk2 hrl l false Za hlo).use (Zf ?_)
     have hn:W8 ZB (Xh x t sp) (YD r.rests) (sp.length+1-k) k l=W8 ZB (Xh x t sp) (YD r.rests) (sp.length+1-(k+1)) (k+1) (ZZ ZB [] (XZ (Xh x t sp) (YD r.rests) k l)):=by
      have e:sp.length+1-k=(sp.length+1-(k+1))+1:=Za
      rw [e,W8]
     have hln:=QH (XZ (Xh x t sp) (YD r.rests) k l) [];have hln2:=KT (x:=x) (t:=t) (sp:=sp) (r:=r.rests) (k:=k) l;exact ⟨(k+1,ZZ ZB [] (XZ (Xh x t sp) (YD r.rests) k l)),⟨Za,hit.trans hn,HJ hok hs1 hk2 hlo,by grind⟩,Za,Weak.mk (by simp (disch:=omega) only [List.set_cons_succ,List.set_cons_zero,go_sem,seval])⟩
    ·have hkn:k=sp.length+1:=Za
     subst hkn;rw [Nat.sub_self,W8] at hit;rw [hit] at hbn ⊢;clear hit;refine cD ?_ ?_<;>intro h3<;>simp (disch:=omega) only [Sh.out h3,go_sem,seval,↓reduceIte]
     ·have hl0:l= []:=List.eq_nil_of_length_eq_zero Za;subst hl0;have hbn:=hbn rfl;refine Z0 (Jf 3 rfl rfl (Zf ?_));refine ⟨_,_,Lc (e:=4) rfl Tryz.underlying91 Ze rfl rfl rfl ?_ ?_ ?_,?_⟩
      ·simp
      ·simp;omega
      ·intro q hq;obtain ⟨b,_,rfl⟩:=List.mem_map.1 hq
       rfl
      ·have hpl:(V5 r.rests (sp.length+1)).length=sp.length+1:=by simp [V5];omega
       have hpad:r.rests.map eB++(PV.bool false::List.replicate r.visits.length (PV.bool false)).drop (r.rests.map eB).length=(V5 r.rests (sp.length+1)).map eB:=by
        rw [V5,List.map_append,<- List.replicate_succ,List.drop_replicate,List.map_replicate,hsl,List.length_map];rfl
       have hcr:=oH x t r false sp hok hs1 hs (V5 r.rests (sp.length+1)) false hpl;have hbad:=CI _ _ _ hbn;rw [hbad] at hcr;simp only [List.set_cons_succ,List.set_cons_zero];rw [hpad]
       generalize hRP:V5 r.rests (sp.length+1)=rp at *
       refine Zr (Weak.fz (o:=5) (by rfl)) (Zd [] _ _ _ _ (Ql ?_));rw [if_pos Za];refine X3 hcr (Zf ?_);have hfm0:Wa Yj none ([]:List Lab)=none:=rfl;rw [hfm0];exact we (by simp (disch:=omega) only [XX,zShe,List.map_nil,go_sem,seval])
     ·cases l with
      | nil=>simp at h3
      | cons l0 l =>
       have e0:YK ((l0::l).map WW) 0=WW l0:=rfl;have hn0:nth (l0::l) 0=l0:=rfl;simp (disch:=first | omega | (simp only [List.length_cons,List.length_nil,List.length_append,List.length_map,List.length_take,List.length_drop]<;>omega)) only [hn0,List.take_length,go_sem,seval];have hfm:Wa Yj none (l0::l)=Wa Yj (some l0) l:=rfl;rw [hfm]
       have hlen:l.length<=2097152:=by
        have hp20:2^(sp.length+1)<=2^21:=Nat.pow_le_pow_right Za Za
        grind
       refine Zj [4,12,65,66] (fun q:Nat×Lab=> [(67,.p (.int .i64 q.1))]) (fun q=> [Zk x,ZN r,.cells [.p (.bool false),.p (.int .i64 0),.p (.list true []),.p (.int .i64 0),.p (.int .i64 0)],Xp x t r false sp,.dead,XL q.2])
        (fun q=>q.1<=l.length/\Wa Yj (some l0) l=Wa Yj (some q.2) (l.drop q.1)) (fun q=>l.length-q.1) (0,l0) Zb (Weak.mk ?_) ?_
       ·simp (disch:=omega) only [Zk,ZN,Xp,XL,go_sem,seval]
       ·rintro ⟨i,m⟩ ⟨hi,hm⟩;simp only at hi hm;simp (disch:=omega) only [Zk,ZN,Xp,XL,go_sem,seval];refine cD ?_ ?_<;>intro h4<;>simp (disch:=omega) only [Sh.out h4,go_sem,seval,↓reduceIte]
        ·have hi2:i<l.length:=Za
         have hdrop:l.drop i=nth l i::l.drop (i+1):=by rw [List.drop_eq_getElem_cons hi2,Zi hi2]
         rw [hdrop,Wa] at hm;refine ZX ?_ ?_<;>intro h5
         ·rw [if_pos (show Yj (nth l i)<Yj m from h5)] at hm;exact ⟨(i+1,nth l i),⟨Za,hm⟩,Za,wk⟩
         ·rw [if_neg (show ¬Yj (nth l i)<Yj m from h5)] at hm;exact ⟨(i+1,m),⟨Za,hm⟩,Za,wk⟩
        ·have hil:i=l.length:=Za
         subst hil;rw [List.drop_length,Wa] at hm;rw [hm];exact we
 ·have e:WC x r=(zShe,2):=by rw [WC,if_neg (fun h=>hs ⟨h.1,h.2.1⟩)]
  rw [e];refine X3 (NX x r hty htl hvl hs) ?_;simp (disch:=omega) only [M5,go_sem,seval];exact we (by simp (disch:=omega) only [zShe,List.map_nil,go_sem,seval])
end Go.Proofs.YtmbelkfkhclnkaaGreatDoor.K
namespace Go.AM
open Go.RowKit
theorem I4 (k v:Int) (l:List (Int×Int)): ∃l',NE (.int .i64 k) (.int .i64 v) (l.map eII)=l'.map eII/\(∀q,Vy l' q=if q=k then v else Vy l q)/\l'.length<=l.length+1:=by
 unfold NE;rw [QE]
 cases hm:Ak l k with
 | none =>
  refine ⟨l++ [(k,v)],by simp [eII],fun q=> ?_,Zb⟩
  have e1:Ak (l++ [(k,v)]) k=some l.length:=by
   grind [Ak]
  by_cases hq:q=k
  ·grind [Vy]
  ·rw [if_neg hq];unfold Vy
   have e3:Ak (l++ [(k,v)]) q=Ak l q:=by
    grind [Ak]
   rw [e3]
   cases hc:Ak l q with
   | none=>rfl
   | some i =>
    unfold Ak at hc
    grind [List.findIdx?_eq_some_iff_getElem]
 | some i =>
  refine ⟨l.set i (k,v),by simp_all [eII],?_,Zb⟩;have hH:oat [.map (l.map eII)] 0= .map (l.map eII):=rfl;have:=DR (H:= [.map (l.map eII)]) (o:=0) (l:=l) (k:=k) (i:=i) (v:=v) (K:=fun _ _=> ∀q,Vy (l.set i (k,v)) q=if q=k then v else Vy l q) hH hm fun h=>h;unfold VM at this;obtain ⟨u,q1,_⟩:=JZ hm
  simp_all [Q7]
theorem I5 {P:Program} {H:List Obj} {t:TypeId} {o:Nat} {l:List (Int×Int)} {k v:Int} {K:V->List Obj->Prop} (hT:I0 P t=some (.int .i64,some (.int .i64 0))) (hH:oat H o= .map (l.map eII))
  (h: ∀l':List (Int×Int),(∀q,Vy l' q=if q=k then v else Vy l q)->K .junk (H.set o (.map (l'.map eII)))):Q7 (KQ P H t (.mp o) (.p (.int .i64 k)) (.p (.int .i64 v))) K:=by
 obtain ⟨kt,et,h1,h2,h3⟩:=Cq hT;obtain ⟨l',e,hg,_⟩:=I4 k v l
 grind [KQ,Ag,Q7]
end Go.AM
namespace Go.Proofs.YtmbelkfkhclnkaaGreatDoor.K
open Go Go.AM Go.Proofs
set_option maxRecDepth 8000
set_option maxHeartbeats 8000000
def JA (l:List Vis) (k:Nat) (q:Int):Int:=((l.take k).countP fun v=>decide (v.order=q):Nat)
theorem Gf {l:List Vis} {k:Nat} (h:k<l.length) (q:Int):JA l (k+1) q=if q=(nth l k).order then JA l k q+1 else JA l k q:=by
 unfold JA;rw [List.take_succ_eq_append_getElem h,List.countP_append,Zi h]
 grind
theorem HT {l:List Vis} {k:Nat} (h:k<=l.length) (q:Int):0<=JA l k q/\JA l k q<=k:=by
 grind [JA,List.length_take]
theorem Dz {l:List Vis} {k:Nat} :JJ l k=decide (JA l k (nth l k).order=0):=by
 unfold JJ JA;rw [Bool.eq_iff_iff];simp
theorem Uy (a b:Int):PC 195 [.p (.int .i64 a),.p (.int .i64 b)] (.bool (UU a b)):=by
 refine Zc Tryz.func195 rfl SN ?_;simp (disch:=omega) only [Tryz.f195,go_sem,seval];refine gT ?_ ?_<;>intro h<;>simp (disch:=omega) only [Sh.out h,go_sem,seval,↓reduceIte]
 ·simp [UU,h]
 simp_all [UU]
theorem Lm (x:Inst) (r:Rte) (s:She) (hty:0<=r.typ/\r.typ<(x.types.length:Int)) (ho:x.orders.length<=1048576) (ht:x.types.length<=1048576) (hl:r.visits.length<=1048576) (hv:Inr x r.visits)
  (hc:0<=(Z1 x r).fixed/\(Z1 x r).fixed<=100000/\0<=(Z1 x r).perMile/\(Z1 x r).perMile<=100/\0<=(Z1 x r).perTick/\(Z1 x r).perTick<=100) (ho2:0<=(Z1 x r).opn/\(Z1 x r).opn<=4096)
  (hf: -4096<=s.fin/\s.fin<=8192) (hm:0<=s.miles/\s.miles<=1000000) :
  PC 157 [.p (Xt x),.p (eRte r),.p (Gh s)] (Q6 (LX x r s)):=by
 have hti:r.typ.toNat<x.types.length:=Za
 have hT:I0 Tryz.prog 264=some (.int .i64,some (.int .i64 0)):=Ze
 unfold LX;have htd:nth x.types r.typ.toNat=Z1 x r:=rfl
 generalize Z1 x r=t at *
 have e1: ¬r.typ<0:=Za
 have e2: ¬(x.types.length:Int)<=r.typ:=Za
 have p1:0<=t.perMile*s.miles/\t.perMile*s.miles<=100*1000000:=⟨Int.mul_nonneg Za Za,Int.mul_le_mul Za Za Za Za⟩
 have hW: -8192<=s.fin-t.opn/\s.fin-t.opn<=8192:=Za
 have p2: -819200<=t.perTick*(s.fin-t.opn)/\t.perTick*(s.fin-t.opn)<=819200:=by
  generalize s.fin-t.opn=w at hW;have a1:=Int.mul_le_mul_of_nonneg_left hW.2 (show 0<=t.perTick by omega);have a2:=Int.mul_le_mul_of_nonneg_left hW.1 (show 0<=t.perTick by omega);omega
 have p3: -128<=(s.fin-t.opn).tdiv 64/\(s.fin-t.opn).tdiv 64<=128:=by
  grind
 have p4:0<=(s.fin-t.opn).tdiv 64*(s.fin-t.opn).tdiv 64/\(s.fin-t.opn).tdiv 64*(s.fin-t.opn).tdiv 64<=16384:=by
  generalize (s.fin-t.opn).tdiv 64=q at p3;refine ⟨?_,?_⟩
  ·rcases Int.le_total 0 q with h | h
   ·exact Int.mul_nonneg h h
   ·exact Int.mul_nonneg_of_nonpos_of_nonpos h h
  ·rcases Int.le_total 0 q with h | h
   ·have:=Int.mul_le_mul p3.2 p3.2 h Za;omega
   ·have h2:0<= -q:=Za
    have:=Int.mul_le_mul (show-q<=128 by omega) (show-q<=128 by omega) h2 Za
    grind
 refine Zc Tryz.func157 rfl So ?_;simp (disch:=omega) only [Tryz.f157,e1,e2,htd,go_sem,seval]
 refine Zj [3,4,6,10,11,59,60] (fun q:Nat×List (Int×Int)=> [(61,.p (.int .i64 q.1))]) (fun q=> [Zk x,ZN r,.cells [.p (.bool s.rest),.p (.int .i64 s.dep),.p (.list s.times_c (s.times.map eTim)),.p (.int .i64 s.fin),.p (.int .i64 s.miles)],UE 0 0 0 0,Xy t,UE (t.fixed+t.perMile*s.miles+t.perTick*(s.fin-t.opn)) (chgF x r.visits r.typ q.1).1 (chgF x r.visits r.typ q.1).2 ((s.fin-t.opn).tdiv 64*(s.fin-t.opn).tdiv 64),.map (q.2.map eII)])
  (fun q=>q.1<=r.visits.length/\ ∀n,Vy q.2 n=JA r.visits q.1 n) (fun q=>r.visits.length-q.1) (0,[]) ⟨Zb,fun n=>rfl⟩ (Weak.mk ?_) ?_
 ·simp (disch:=omega) only [Zk,ZN,Xy,UE,chgF,go_sem,seval]
 ·rintro ⟨k,m⟩ ⟨hk,hmg⟩;simp only at hk hmg;have hch:=Jz (x:=x) (l:=r.visits) (t:=r.typ) k;simp (disch:=omega) only [Zk,ZN,Xy,UE,go_sem,seval];refine cD ?_ ?_<;>intro h1<;>simp (disch:=omega) only [Sh.out h1,go_sem,seval,↓reduceIte]
  ·have hk2:k<r.visits.length:=Za
   obtain ⟨v1,v2⟩:=hv _ (ZQ hk2)
   have e3: ¬(nth r.visits k).order<0:=Za
   have e4: ¬(x.orders.length:Int)<=(nth r.visits k).order:=Za
   have v3:(nth r.visits k).order.toNat<x.orders.length:=Za
   have hcs:=Gf hk2;have hcr:=HT hk (nth r.visits k).order;have hfi:=Dz (l:=r.visits) (k:=k);have hch2:chgF x r.visits r.typ (k+1)=_:=chgF.eq_2 x r.visits r.typ k;refine Cn hT rfl ?_;rw [hmg];refine Zf ?_;refine I5 hT rfl fun m' hm'=> ?_
   have hmg': ∀n,Vy m' n=JA r.visits (k+1) n:=fun n=>by grind
   simp (disch:=omega) only [e3,e4,List.set_cons_succ,List.set_cons_zero,go_sem,seval];refine Cn hT rfl ?_;rw [hm',if_pos rfl];refine Zf ?_;refine ZX ?_ ?_<;>intro h2
   ·have h3: ¬JJ r.visits k=true:=by grind
    rw [if_neg h3] at hch2;exact ⟨(k+1,m'),⟨Za,hmg'⟩,Za,Weak.mk (by simp (disch:=omega) only [hch2,go_sem,seval])⟩
   ·have h3:JJ r.visits k=true:=by grind
    rw [if_pos h3] at hch2;refine (Uy (nth x.orders (nth r.visits k).order.toNat).now r.typ).use (Zf ?_);refine cD ?_ ?_<;>intro h4<;>simp (disch:=omega) only [Sh.out h4,go_sem,seval,↓reduceIte]
    ·rw [if_pos h4] at hch2;refine (Uy (nth x.orders (nth r.visits k).order.toNat).last r.typ).use (Zf ?_);refine ZX ?_ ?_<;>intro h5
     ·rw [if_pos h5] at hch2;exact ⟨(k+1,m'),⟨Za,hmg'⟩,Za,Weak.mk (by simp (disch:=omega) only [hch2,go_sem,seval])⟩
     ·rw [if_neg (by rw [h5];simp)] at hch2;exact ⟨(k+1,m'),⟨Za,hmg'⟩,Za,Weak.mk (by simp (disch:=omega) only [hch2,Int.add_zero,go_sem,seval])⟩
    ·rw [if_neg (by rw [h4];simp)] at hch2;refine (Uy (nth x.orders (nth r.visits k).order.toNat).last r.typ).use (Zf ?_);refine ZX ?_ ?_<;>intro h5
     ·rw [if_pos h5] at hch2;exact ⟨(k+1,m'),⟨Za,hmg'⟩,Za,Weak.mk (by simp (disch:=omega) only [hch2,Int.add_zero,go_sem,seval])⟩
     ·rw [if_neg (by rw [h5];simp)] at hch2;exact ⟨(k+1,m'),⟨Za,hmg'⟩,Za,Weak.mk (by simp (disch:=omega) only [hch2,Int.add_zero,go_sem,seval])⟩
  grind
end Go.Proofs.YtmbelkfkhclnkaaGreatDoor.K
namespace Go.Proofs.YtmbelkfkhclnkaaGreatDoor.K
open Go Go.AM Go.Proofs
set_option maxRecDepth 8000
set_option maxHeartbeats 8000000
@[go_sem] theorem cI {f:FuncId} :(PV.fn f).cells= [.fn f]:=Eq.trans rfl rfl
def TZ : AM.Obj:= .cells [.p (.bool false),.p (.int .i64 0),.p (.list true []),.p (.int .i64 0),.p (.int .i64 0)]
theorem JG (x:Inst) (r:Rte) (hx:InstOk x) (hl:r.visits.length<=1048576) (hrl:r.rests.length<=1048576):ACalls Tryz.prog 112 [.p (Xt x),.p (eRte r)] [] fun y H'=>y=K1 x r/\H'= []:=by
 have hld:=U0 hx;have htl:=hld.typ;have hol:=hld.ord;have chk:=Lo x r hx hl
 have htb:x.types.length<=6:=by have:=hx.types.1;simp only [rng,decide_eq_true_eq] at this;omega
 refine Zg [] Tryz.func112 rfl RT ?_;simp (disch:=omega) only [Tryz.f112,go_sem,seval];refine gF ?_ ?_<;>intro h1<;>simp (disch:=omega) only [Sh.out h1,go_sem,seval,↓reduceIte]
 ·have e:Yt x r=2:=by rw [Yt,if_pos Za]
  rw [YS (e:=2) (by rw [Z3,e];rfl) Za];exact we (by simp (disch:=omega) only [zShe,zSco,List.map_nil,go_sem,seval])
 ·refine cD ?_ ?_<;>intro h2<;>simp (disch:=omega) only [Sh.out h2,go_sem,seval,↓reduceIte]
  ·have e:Yt x r=2:=by simp_all [Yt]
   rw [YS (e:=2) (by rw [Z3,e];rfl) Za];exact we (by simp (disch:=omega) only [zShe,zSco,List.map_nil,go_sem,seval])
  ·have hty:0<=r.typ/\r.typ<(x.types.length:Int):=Za
   have hti:r.typ.toNat<x.types.length:=Za
   have hnum:=Kw hx hti;have htyp:nth x.types r.typ.toNat=Z1 x r:=rfl;rw [htyp] at hnum
   have hsk: ∀o∈x.orders,o.skills<9223372036854775808:=fun o hm=>by
    obtain ⟨i,hi,rfl⟩:=List.mem_iff_getElem.1 hm;have:=(hx.orders.2 i hi).skills
    grind [Zi]
   refine Zj [2,3,4,5,25,26] (fun k:Nat=> [(27,.p (.int .i64 k))]) (fun _=> [Zk x,ZN r,TZ,UE 0 0 0 0,.elems 1 [.fn 153,.fn 154,.fn 155]])
    (fun k=>k<=3/\(0<k->Xi x r.visits=0)/\(1<k-> ¬(r.visits.any fun v=> !WB (Z1 x r) (nth x.orders v.order.toNat).skills)=true)/\(2<k->JV x (Z1 x r).cap r.visits=true)) (fun k=>3-k) 0 ⟨Za,Za,Za,Za⟩ (Weak.mk ?_) ?_
   ·simp (disch:=omega) only [Zk,ZN,UE,TZ,go_sem,seval]
   ·rintro k ⟨hk,k1,k2,k3⟩;simp (disch:=omega) only [Zk,ZN,UE,TZ,go_sem,seval];refine cD ?_ ?_<;>intro h3<;>simp (disch:=omega) only [Sh.out h3,go_sem,seval,↓reduceIte]
    ·by_cases hk0:k=0
     ·subst hk0;have he:YK [PV.fn 153,PV.fn 154,PV.fn 155] 0=PV.fn 153:=rfl;simp (disch:=first | omega | (simp only [List.length_cons,List.length_nil,List.length_append,List.length_map,List.length_take,List.length_drop]<;>omega)) only [he,go_sem,seval,↓reduceIte];refine (chk).use (Zf ?_);refine ZX ?_ ?_<;>intro h4
      ·have e:Yt x r=Xi x r.visits:=by simp_all [Yt]
       rw [YS (e:=Xi x r.visits) (by simp_all [Z3]) h4];exact we (by simp (disch:=omega) only [zShe,zSco,List.map_nil,go_sem,seval])
      ·exact ⟨1,⟨Za,fun _=>Za,Za,Za⟩,Za,wk⟩
     ·have h0:=k1 Za;have hsq:=Wm h0
      have hr0:Yt x r=if (r.visits.any fun v=> !WB (Z1 x r) (nth x.orders v.order.toNat).skills)=true then 18 else if JV x (Z1 x r).cap r.visits=false then 17 else if ¬(0<=r.start/\r.start<=4096/\r.rests.length<=r.visits.length+1) then 2 else 0:=by
       rw [Yt,if_neg (fun h=>h hty),if_neg Za]
      by_cases hk1:k=1
      ·subst hk1;have he:YK [PV.fn 153,PV.fn 154,PV.fn 155] 1=PV.fn 154:=rfl;simp (disch:=first | omega | (simp only [List.length_cons,List.length_nil,List.length_append,List.length_map,List.length_take,List.length_drop]<;>omega)) only [he,go_sem,seval,↓reduceIte];refine (Ll x r hty (fun v hv=>by have:=hsq.inr v hv;grind [RH]) hl htl Za Za hsk).use (Zf ?_)
       by_cases h5:(r.visits.any fun v=> !WB (Z1 x r) (nth x.orders v.order.toNat).skills)=true
       ·rw [if_pos h5] at hr0 ⊢;rw [YS (e:=18) (by rw [Z3,hr0];rfl) Za];refine Zf ?_;exact we (by simp (disch:=omega) only [zShe,zSco,List.map_nil,go_sem,seval])
       ·rw [if_neg h5];refine Zf ?_;exact ⟨2,⟨Za,fun _=>h0,fun _=>h5,Za⟩,Za,wk⟩
      ·have hk2:k=2:=Za
       subst hk2;have he:YK [PV.fn 153,PV.fn 154,PV.fn 155] 2=PV.fn 155:=rfl;simp (disch:=first | omega | (simp only [List.length_cons,List.length_nil,List.length_append,List.length_map,List.length_take,List.length_drop]<;>omega)) only [he,go_sem,seval,↓reduceIte];refine (Lh x r hx hl hty h0).use (Zf ?_);rw [if_neg (k2 Za)] at hr0
       cases h5:JV x (Z1 x r).cap r.visits with
       | false =>
        rw [if_pos h5] at hr0;rw [YS (e:=17) (by rw [Z3,hr0];rfl) Za];simp only [Bool.false_eq_true,if_false];refine Zf ?_;exact we (by simp (disch:=omega) only [zShe,zSco,List.map_nil,go_sem,seval])
       | true =>
        simp only [if_true];refine Zf ?_;exact ⟨3,⟨Za,fun _=>h0,fun _=>k2 Za,fun _=>Zb⟩,Za,wk⟩
    ·have hk3:k=3:=Za
     subst hk3;have h0:=k1 Za;have hsq:=Wm h0
     have hr0:Yt x r=if ¬(0<=r.start/\r.start<=4096/\r.rests.length<=r.visits.length+1) then 2 else 0:=by
      rw [Yt,if_neg (fun h=>h hty),if_neg Za,if_neg (k2 Za),if_neg (by grind)]
     have cb:=NP x r hx hl hrl hty h0;have hok:=Kv hx hty hsq
     have hbr:WC x r=XK x r->(XK x r).2=0->(0<=r.start/\r.start<=4096/\r.rests.length<=r.visits.length+1)->(0<=(XK x r).1.fin/\(XK x r).1.fin<=8192)/\(0<=(XK x r).1.miles/\(XK x r).1.miles<=210000):=fun _ hz hs =>
      BW hok ⟨hs.1,hs.2.1⟩ (by grind [XW]) hz
     by_cases h6:0<=r.start/\r.start<=4096/\r.rests.length<=r.visits.length+1
     ·have e:Yt x r=0:=Za
      have ee:Z3 x r=(XK x r).2:=by rw [Z3,if_pos e]
      have eb:WC x r=XK x r:=by rw [WC,if_pos h6]
      have hbr:=fun hz=>hbr eb hz h6;rw [eb] at cb
      have es:WG x r=if (XK x r).2=0 then (XK x r).1 else zShe:=by rw [WG,ee]
      have ep:Uf x r=if (XK x r).2=0 then LX x r (XK x r).1 else zSco:=by rw [Uf,ee]
      unfold K1;rw [ee,es,ep];clear ee es ep eb
      generalize XK x r=q at *
      obtain ⟨sh,eb⟩:=q;simp only at cb hbr ⊢;refine X3 cb (Zf ?_);refine cD ?_ ?_<;>intro h7<;>simp (disch:=omega) only [Sh.out h7,go_sem,seval,↓reduceIte]
      ·exact we (by simp (disch:=omega) only [zShe,zSco,List.map_nil,go_sem,seval])
      ·have h7':eb=0:=Za
       try rw [if_pos h7',if_pos h7']
       subst h7';obtain ⟨g1,g2⟩:=hbr rfl;refine Zv 5 mixed Ze Ze (Zf ?_);refine Zn (Lm x r sh hty Za htl hl hsq.inr hnum.2.2.2.1 Za Za Za) (Zf ?_);exact we
     ·have e:Yt x r=2:=Za
      have eb:WC x r=(zShe,2):=by rw [WC,if_neg h6]
      rw [YS (e:=2) (by rw [Z3,e];rfl) Za];rw [eb] at cb;refine X3 cb (Zf ?_);exact we (by simp (disch:=omega) only [zShe,zSco,List.map_nil,go_sem,seval])
theorem Lq (x:Inst) (r:Rte) (hx:InstOk x) (hl:r.visits.length<=1048576) (hrl:r.rests.length<=1048576):PC 82 [.p (Xt x),.p (eRte r)] (.int .i64 (Z3 x r)):=by
 have ce:=JG x r hx hl hrl;refine Zc Tryz.func82 rfl mL ?_;simp (disch:=omega) only [Tryz.f82,go_sem,seval];unfold K1 at ce;refine FJ ce ?_;simp (disch:=omega) only [go_sem,seval,↓reduceIte]
theorem Vs {x:Inst} {r:Rte} (h:Z3 x r=0):Yt x r=0:=by
 grind [Z3]
theorem VX {x:Inst} {r:Rte} (h:Yt x r=0):(0<=r.typ/\r.typ<(x.types.length:Int))/\Xi x r.visits=0/\(0<=r.start/\r.start<=4096/\r.rests.length<=r.visits.length+1):=by
 unfold Yt at h;omega
theorem Ie {x:Inst} {r:Rte} (hx:InstOk x) (h:Z3 x r=0):(0<=(WG x r).fin/\(WG x r).fin<=8192)/\(0<=(WG x r).miles/\(WG x r).miles<=210000):=by
 obtain ⟨hty,h0,hs⟩:=VX (Vs h)
 have e:WG x r=(XK x r).1:=by rw [WG,if_pos h]
 have ee:(XK x r).2=0:=by rw [Z3,if_pos (Vs h)] at h;exact h
 rw [e];exact BW (Kv hx hty (Wm h0)) ⟨hs.1,hs.2.1⟩ (by grind [XW]) ee
theorem VL {P:Program} {e:TypeId} {k:Nat} {cs:List PV} {kk:IntKind} {n:Int} {x:PV} (h0:0<=n) (h1:n<k) (hx:apart P e cs n.toNat=some x) (ht:XA P e=some 1):BG P (some (.array k e)) (.p (.agg cs)) (.p (.int kk n))=some (.p x):=by
 simp_all [BG]
def PE (s:Sco):PV:= .agg [.int .i64 s.cost,.int .i64 s.moved,.int .i64 s.other,.int .i64 s.work]
@[go_sem] theorem qO (s:Sco):PE s= .agg [.int .i64 s.cost,.int .i64 s.moved,.int .i64 s.other,.int .i64 s.work]:=Eq.trans rfl rfl
theorem J9 (s:Sco):PC 115 [.p (Q6 s)] (PE s):=by
 refine Zg [] Tryz.func115 rfl RX ?_;simp (disch:=omega) only [Tryz.f115,go_sem,seval];exact we
theorem Fv (s:Sco):PC 158 [.p (PE s)] (Q6 s):=by
 refine Zg [] Tryz.func158 rfl Sp ?_;simp (disch:=omega) only [Tryz.f158,go_sem,seval];exact we
def XN (a b:Sco):Sco:=⟨a.cost+b.cost,a.moved+b.moved,a.other+b.other,a.work+b.work⟩
def Y7 (B:Int) (s:Sco):Prop:=(-B<=s.cost/\s.cost<=B)/\(-B<=s.moved/\s.moved<=B)/\(-B<=s.other/\s.other<=B)/\(-B<=s.work/\s.work<=B)
def Qn (a b:Sco) (k:Nat):AM.Obj:= .cells [.p (.int .i64 (if 0<k then a.cost+b.cost else a.cost)),.p (.int .i64 (if 1<k then a.moved+b.moved else a.moved)),.p (.int .i64 (if 2<k then a.other+b.other else a.other)),.p (.int .i64 (if 3<k then a.work+b.work else a.work))]
def Xj (s:Sco):AM.Obj:= .cells [.p (.int .i64 s.cost),.p (.int .i64 s.moved),.p (.int .i64 s.other),.p (.int .i64 s.work)]
theorem Fw (a b:Sco) (ha:Y7 1152921504606846976 a) (hb:Y7 1152921504606846976 b):PC 113 [.p (Q6 a),.p (Q6 b)] (Q6 (XN a b)):=by
 obtain ⟨a1,a2,a3,a4⟩:=ha;obtain ⟨b1,b2,b3,b4⟩:=hb;refine Zg [1] Tryz.func113 rfl RU ?_;simp (disch:=omega) only [Tryz.f113,go_sem,seval];refine Zq [4] (fun c:Bool=> [(5,.ptr (if c=true then 3 else 4) 0),(6,.ptr (if c=true then 4 else 3) 0)]) (fun c=> [Xj a,Xj b,Xj zSco,if c=true then Xj a else Xj b,if c=true then Xj b else Xj a]) (fun _=>True) ?_ ?_
 ·simp (disch:=omega) only [go_sem,seval];refine Y1 [4,5] 6 mixed Ze Ze Ze Zb ?_;simp (disch:=omega) only [go_sem,seval];refine Zn (J9 a) ?_;simp (disch:=omega) only [go_sem,seval];refine Zn (J9 b) ?_;simp (disch:=omega) only [go_sem,seval];refine VU 4 5 _ _ _ _ Ze (by simp (disch:=omega) only [go_sem,seval];exact ⟨rfl,rfl⟩) (by simp (disch:=omega) only [go_sem,seval];exact ⟨rfl,rfl⟩) ?_ ?_
  ·refine Z8 5 _ _ Ze (by simp (disch:=omega) only [go_sem,seval];exact ⟨rfl,rfl⟩) (YM ?_);simp (disch:=omega) only [go_sem,seval];exact ⟨true,Weak.mk (by simp (disch:=omega) only [Xj,zSco,go_sem,seval])⟩
  ·refine Z8 4 _ _ Ze (by simp (disch:=omega) only [go_sem,seval];exact ⟨rfl,rfl⟩) (YM ?_);simp (disch:=omega) only [go_sem,seval];exact ⟨false,Weak.mk (by simp (disch:=omega) only [Xj,zSco,Bool.false_eq_true,go_sem,seval])⟩
 ·intro c _
  cases c <;>
  (simp only [Bool.false_eq_true,if_true,if_false]
   refine Zd [] _ _ _ _ ?_
   simp (disch:=omega) only [Xj,zSco,go_sem,seval])
  ·refine Zj [4,5,6] (fun k:Nat=> [(12,.p (.int .i64 k))]) (fun k=> [Xj a,Xj b,Xj zSco,Xj b,Qn a b k]) (fun k=>k<=4) (fun k=>4-k) 0 Za (Weak.mk ?_) ?_
   ·simp (disch:=omega) only [Xj,Qn,zSco,go_sem,seval]
   ·intro k hk;simp (disch:=omega) only [Xj,Qn,zSco,go_sem,seval];refine cD ?_ ?_<;>intro h1<;>simp (disch:=omega) only [Sh.out h1,go_sem,seval]
    ·have:k=0\/k=1\/k=2\/k=3:=Za
     rcases this with rfl | rfl | rfl | rfl
     ·refine Zv 7 mixed Ze Ze ?_;simp (disch:=omega) only [go_sem,seval];exact ⟨1,Za,Za,Weak.mk (by simp (disch:=omega) only [Xj,Qn,zSco,go_sem,seval])⟩
     ·refine Zv 7 mixed Ze Ze ?_;simp (disch:=omega) only [go_sem,seval];exact ⟨2,Za,Za,Weak.mk (by simp (disch:=omega) only [Xj,Qn,zSco,go_sem,seval])⟩
     ·refine Zv 7 mixed Ze Ze ?_;simp (disch:=omega) only [go_sem,seval];exact ⟨3,Za,Za,Weak.mk (by simp (disch:=omega) only [Xj,Qn,zSco,go_sem,seval])⟩
     ·refine Zv 7 mixed Ze Ze ?_;simp (disch:=omega) only [go_sem,seval];exact ⟨4,Za,Za,Weak.mk (by simp (disch:=omega) only [Xj,Qn,zSco,go_sem,seval])⟩
    ·have hk4:k=4:=Za
     subst hk4;refine (Fv (XN a b)).use ?_;simp (disch:=omega) only [go_sem,seval];exact we
  ·refine Zj [4,5,6] (fun k:Nat=> [(12,.p (.int .i64 k))]) (fun k=> [Xj a,Xj b,Xj zSco,Qn a b k,Xj b]) (fun k=>k<=4) (fun k=>4-k) 0 Za (Weak.mk ?_) ?_
   ·simp (disch:=omega) only [Xj,Qn,zSco,go_sem,seval]
   ·intro k hk;simp (disch:=omega) only [Xj,Qn,zSco,go_sem,seval];refine cD ?_ ?_<;>intro h1<;>simp (disch:=omega) only [Sh.out h1,go_sem,seval]
    ·have:k=0\/k=1\/k=2\/k=3:=Za
     rcases this with rfl | rfl | rfl | rfl
     ·refine Zv 7 mixed Ze Ze ?_;simp (disch:=omega) only [go_sem,seval];exact ⟨1,Za,Za,Weak.mk (by simp (disch:=omega) only [Xj,Qn,zSco,go_sem,seval])⟩
     ·refine Zv 7 mixed Ze Ze ?_;simp (disch:=omega) only [go_sem,seval];exact ⟨2,Za,Za,Weak.mk (by simp (disch:=omega) only [Xj,Qn,zSco,go_sem,seval])⟩
     ·refine Zv 7 mixed Ze Ze ?_;simp (disch:=omega) only [go_sem,seval];exact ⟨3,Za,Za,Weak.mk (by simp (disch:=omega) only [Xj,Qn,zSco,go_sem,seval])⟩
     ·refine Zv 7 mixed Ze Ze ?_;simp (disch:=omega) only [go_sem,seval];exact ⟨4,Za,Za,Weak.mk (by simp (disch:=omega) only [Xj,Qn,zSco,go_sem,seval])⟩
    ·have hk4:k=4:=Za
     subst hk4;refine (Fv (XN a b)).use ?_;simp (disch:=omega) only [go_sem,seval];exact we
def Uc (s:Sco):Int×Int:=if s.cost<0\/s.moved<0\/s.other<0\/s.work<0 then (0,2) else if 1073741824<s.cost\/16<=s.moved\/16<=s.other\/65536<=s.work then (0,4) else (((s.cost*16+s.moved)*16+s.other)*65536+s.work,0)
theorem GL (s:Sco) (hs:Y7 1152921504606846976 s):PT 71 [.p (Q6 s)] [.p (.int .i64 (Uc s).1),.p (.int .i64 (Uc s).2)]:=by
 obtain ⟨a1,a2,a3,a4⟩:=hs;refine Zg [] Tryz.func71 rfl mI ?_;simp (disch:=omega) only [Tryz.f71,go_sem,seval];refine (J9 s).use (Zf ?_);refine Zj [1,9] (fun k:Nat=> [(10,.p (.int .i64 k))]) (fun _=> [Xj s,Xj s]) (fun k=>k<=4/\(0<k->0<=s.cost)/\(1<k->0<=s.moved)/\(2<k->0<=s.other)/\(3<k->0<=s.work)) (fun k=>4-k) 0 ⟨Za,Za,Za,Za,Za⟩ (Weak.mk ?_) ?_
 ·simp (disch:=omega) only [Xj,go_sem,seval]
 ·rintro k ⟨hk,k1,k2,k3,k4⟩;simp (disch:=omega) only [Xj,go_sem,seval];refine cD ?_ ?_<;>intro h1<;>simp (disch:=omega) only [Sh.out h1,go_sem,seval,↓reduceIte]
  ·have:k=0\/k=1\/k=2\/k=3:=Za
   rcases this with rfl | rfl | rfl | rfl
   ·rw [VL (x:= .int .i64 s.cost) Za Za (by rfl) Ze];refine Zf ?_;refine ZX ?_ ?_<;>intro h2
    ·have e:Uc s=(0,2):=by simp_all [Uc]
     rw [e];exact we
    ·exact ⟨1,⟨Za,fun _=>Za,Za,Za,Za⟩,Za,wk⟩
   ·rw [VL (x:= .int .i64 s.moved) Za Za (by rfl) Ze];refine Zf ?_;refine ZX ?_ ?_<;>intro h2
    ·have e:Uc s=(0,2):=by simp_all [Uc]
     rw [e];exact we
    ·exact ⟨2,⟨Za,fun _=>k1 Za,fun _=>Za,Za,Za⟩,Za,wk⟩
   ·rw [VL (x:= .int .i64 s.other) Za Za (by rfl) Ze];refine Zf ?_;refine ZX ?_ ?_<;>intro h2
    ·have e:Uc s=(0,2):=by simp_all [Uc]
     rw [e];exact we
    ·exact ⟨3,⟨Za,fun _=>k1 Za,fun _=>k2 Za,fun _=>Za,Za⟩,Za,wk⟩
   ·rw [VL (x:= .int .i64 s.work) Za Za (by rfl) Ze];refine Zf ?_;refine ZX ?_ ?_<;>intro h2
    ·have e:Uc s=(0,2):=by simp_all [Uc]
     rw [e];exact we
    ·exact ⟨4,⟨Za,fun _=>k1 Za,fun _=>k2 Za,fun _=>k3 Za,fun _=>Za⟩,Za,wk⟩
  ·have hk4:k=4:=Za
   subst hk4;have g1:=k1 Za;have g2:=k2 Za;have g3:=k3 Za;have g4:=k4 Za
   have n1: ¬(s.cost<0\/s.moved<0\/s.other<0\/s.work<0):=Za
   have bad:(1073741824<s.cost\/16<=s.moved\/16<=s.other\/65536<=s.work)->Uc s=(0,4):=fun h=>by simp_all [Uc]
   refine gF ?_ ?_<;>intro h2<;>simp (disch:=omega) only [Sh.out h2,go_sem,seval,↓reduceIte]
   ·rw [bad Za];exact we
   ·refine gF ?_ ?_<;>intro h3<;>simp (disch:=omega) only [Sh.out h3,go_sem,seval,↓reduceIte]
    ·rw [bad Za];exact we
    ·refine gF ?_ ?_<;>intro h4<;>simp (disch:=omega) only [Sh.out h4,go_sem,seval,↓reduceIte]
     ·rw [bad Za];exact we
     ·refine cD ?_ ?_<;>intro h5<;>simp (disch:=omega) only [Sh.out h5,go_sem,seval,↓reduceIte]
      ·rw [bad Za];exact we
      ·have e:Uc s=(((s.cost*16+s.moved)*16+s.other)*65536+s.work,0):=by simp_all [Uc,if_neg]
       rw [e];exact we
def Wg (x:Inst) (i:Int):Sco×Int :=
 if i<0\/(x.orders.length:Int)<=i then (zSco,2)
 else if (nth x.orders i.toNat).off=true then (zSco,9)
 else if (nth x.orders i.toNat).penalty= -1 then (zSco,23)
 else (⟨(nth x.orders i.toNat).penalty,if (nth x.orders i.toNat).now= -1 then 0 else 1,0,0⟩,0)
theorem CD (x:Inst) (i:Int) (ho:x.orders.length<=1048576):PT 114 [.p (Xt x),.p (.int .i64 i)] [.p (Q6 (Wg x i).1),.p (.int .i64 (Wg x i).2)]:=by
 refine Zg [] Tryz.func114 rfl RW ?_;simp (disch:=omega) only [Tryz.f114,go_sem,seval];refine gF ?_ ?_<;>intro h1<;>simp (disch:=omega) only [Sh.out h1,go_sem,seval,↓reduceIte]
 ·have e:Wg x i=(zSco,2):=by simp_all [Wg]
  rw [e];exact we (by simp (disch:=omega) only [zSco,go_sem,seval])
 ·refine cD ?_ ?_<;>intro h2<;>simp (disch:=omega) only [Sh.out h2,go_sem,seval,↓reduceIte]
  ·have e:Wg x i=(zSco,2):=by simp_all [Wg]
   rw [e];exact we (by simp (disch:=omega) only [zSco,go_sem,seval])
  ·have hi:i.toNat<x.orders.length:=Za
   have n1: ¬(i<0\/(x.orders.length:Int)<=i):=Za
   refine cD ?_ ?_<;>intro h3<;>simp (disch:=omega) only [Sh.out h3,go_sem,seval,↓reduceIte]
   ·have e:Wg x i=(zSco,9):=by simp_all [Wg]
    rw [e];exact we (by simp (disch:=omega) only [zSco,go_sem,seval])
   ·have h3': ¬(nth x.orders i.toNat).off=true:=by rw [h3];simp
    refine cD ?_ ?_<;>intro h4<;>simp (disch:=omega) only [Sh.out h4,go_sem,seval,↓reduceIte]
    ·have e:Wg x i=(zSco,23):=by simp_all [Wg]
     rw [e];exact we (by simp (disch:=omega) only [zSco,go_sem,seval])
    ·refine cD ?_ ?_<;>intro h5<;>simp (disch:=omega) only [Sh.out h5,go_sem,seval,↓reduceIte]
     ·have e:Wg x i=(⟨(nth x.orders i.toNat).penalty,1,0,0⟩,0):=by simp_all [Wg]
      rw [e];exact we
     ·have h5':(nth x.orders i.toNat).now= -1:=Za
      have e:Wg x i=(⟨(nth x.orders i.toNat).penalty,0,0,0⟩,0):=by simp_all [Wg]
      rw [e];exact we
def ZA (rs:List Rte) (i:Nat):Int:=(rs.countP fun r=>XR r.visits (i:Int):Nat)
def Z2 (us:List Int) (i:Nat):Int:=(us.countP fun u=>decide (u=(i:Int)):Nat)
def XQ (rs:List Rte) (i:Nat):Int:=(rs.countP fun r=>decide (r.typ=(i:Int)):Nat)
theorem KW {rs:List Rte} {k:Nat} (h:k<rs.length) (i:Nat):ZA (rs.take (k+1)) i=if XR (nth rs k).visits (i:Int)=true then ZA (rs.take k) i+1 else ZA (rs.take k) i:=by
 grind [ZA,List.take_succ_eq_append_getElem,Zi]
theorem KX {us:List Int} {k:Nat} (h:k<us.length) (i:Nat):Z2 (us.take (k+1)) i=if nth us k=(i:Int) then Z2 (us.take k) i+1 else Z2 (us.take k) i:=by
 grind [Z2,List.take_succ_eq_append_getElem,Zi]
theorem Gg {rs:List Rte} {k:Nat} (h:k<rs.length) (i:Nat):XQ (rs.take (k+1)) i=if (nth rs k).typ=(i:Int) then XQ (rs.take k) i+1 else XQ (rs.take k) i:=by
 grind [XQ,List.take_succ_eq_append_getElem,Zi]
theorem JB {rs:List Rte} {k:Nat} (i:Nat):0<=ZA (rs.take k) i/\ZA (rs.take k) i<=rs.length:=by
 grind [List.length_take,ZA]
theorem JC {us:List Int} {k:Nat} (i:Nat):0<=Z2 (us.take k) i/\Z2 (us.take k) i<=us.length:=by
 grind [List.length_take,Z2]
theorem HV {rs:List Rte} {k:Nat} (i:Nat):0<=XQ (rs.take k) i/\XQ (rs.take k) i<=rs.length:=by
 grind [List.length_take,XQ]
def ZF (f:Nat->Int) (n:Nat):List Int:=(List.range n).map f
theorem Qb {f n} :(ZF f n).length=n:=by simp [ZF]
theorem Ys {f n j} (h:j<n):nth (ZF f n) j=f j:=WL h
theorem VD {f n j v} :(ZF f n).set j v=ZF (fun i=>if i=j then v else f i) n:=by
 apply List.ext_getElem (by simp [ZF]);intro i h1 h2;rw [List.getElem_set];simp [ZF];omega
theorem Yo {f g:Nat->Int} {n:Nat} (h: ∀i,i<n->f i=g i):ZF f n=ZF g n:=List.map_congr_left fun i hi=>h i (List.mem_range.1 hi)
theorem ER {x:Inst} {l:List Vis} (hi:Inr x l) (i:Nat) (h:i<=62):(((YO l:Nat):Int).fdiv (2^i))%2=if XR l (i:Int)=true then 1 else 0:=by
 have h1:Ja ((YO l:Nat):Int) (i:Int)=XR l (i:Int):=by
  rw [CP _ _ h,Bool.eq_iff_iff,J5,Vu]
  constructor
  ·rintro ⟨v,hv,e⟩;exact ⟨v,hv,by have:=hi v hv;omega⟩
  grind
 rw [<- h1];unfold Ja
 grind
theorem Kp {P Q:Prop} (h:Q) (e:Q->P:=by intro h;simp (disch:=omega) only [Zk,Zw,go_sem,seval];exact h):P:=e h
theorem KZ (x:Inst) (p:Pln) (htl:x.types.length<=1048576) (hr:p.routes.length<=1048576) (hty: ∀r∈p.routes,0<=r.typ/\r.typ<(x.types.length:Int)) :
  PC 86 [.p (Xt x),.p (Ws p)] (.bool ((List.range x.types.length).any fun t=>decide ((nth x.types t).count<XQ p.routes t))):=by
 refine Zc Tryz.func86 rfl mP ?_;simp (disch:=omega) only [Tryz.f86,go_sem,seval]
 have hz:List.replicate x.types.length (PV.int .i64 0)=(ZF (XQ (p.routes.take 0)) x.types.length).map eI:=by
  rw [Yo (g:=fun _=>0) (fun i _=>by simp [XQ]),ZF,List.map_map];rw [show (eI∘fun _:Nat=>(0:Int))=fun _=>PV.int .i64 0 from rfl,List.map_const',List.length_range]
 have hrl: ∀f,(ZF f x.types.length).length=x.types.length:=fun f=>Qb;refine Zj [2,5,15,16] (fun k:Nat=> [(17,.p (.int .i64 k))]) (fun k=> [Zk x,Zw p,.elems 1 ((ZF (XQ (p.routes.take k)) x.types.length).map eI)]) (fun k=>k<=p.routes.length) (fun k=>p.routes.length-k) 0 Zb (Weak.mk ?_) ?_
 ·simp (disch:=omega) only [Zk,Zw,hz,go_sem,seval]
 ·intro k hk;refine Kp ?_;refine cD ?_ ?_<;>intro h1<;>simp (disch:=omega) only [Sh.out h1,go_sem,seval,↓reduceIte]
  ·have hk2:k<p.routes.length:=Za
   obtain ⟨t1,t2⟩:=hty _ (Zu hk2)
   have hti:(nth p.routes k).typ.toNat<x.types.length:=Za
   have hsu:=Gg hk2;have hrg:=HV (rs:=p.routes) (k:=k)
   have hnx:(ZF (XQ (p.routes.take k)) x.types.length).set (nth p.routes k).typ.toNat (XQ (p.routes.take k) (nth p.routes k).typ.toNat+1)=ZF (XQ (p.routes.take (k+1))) x.types.length:=by
    rw [VD];refine Yo fun i _=> ?_
    grind
   have hrr:=hrl (XQ (p.routes.take k));have hg:=hrg (nth p.routes k).typ.toNat;have hnt:nth (ZF (XQ (p.routes.take k)) x.types.length) (nth p.routes k).typ.toNat=XQ (p.routes.take k) (nth p.routes k).typ.toNat:=Ys hti
   have he:YK ((ZF (XQ (p.routes.take k)) x.types.length).map eI) (nth p.routes k).typ.toNat= .int .i64 (XQ (p.routes.take k) (nth p.routes k).typ.toNat):=by rw [Xe Za,hnt];rfl
   generalize XQ (p.routes.take k) (nth p.routes k).typ.toNat=c at *
   generalize ZF (XQ (p.routes.take k)) x.types.length=R at *
   have Zx:(R.map eI).set (nth p.routes k).typ.toNat (.int .i64 (c+1))=(ZF (XQ (p.routes.take (k+1))) x.types.length).map eI:=by rw [<- hnx,List.map_set];rfl
   simp (disch:=first | omega | (simp only [List.length_cons,List.length_nil,List.length_append,List.length_map,List.length_take,List.length_drop]<;>omega)) only [he,hrr,hti,eq_self,true_and,go_sem,seval];exact ⟨k+1,Za,Za,Weak.mk (by simp (disch:=omega) only [Zx,go_sem,seval])⟩
  ·have hkl:k=p.routes.length:=Za
   subst hkl;rw [List.take_length];have hrr:=hrl (XQ p.routes);have hnt: ∀j,j<x.types.length->nth (ZF (XQ p.routes) x.types.length) j=XQ p.routes j:=fun j hj=>Ys hj
   generalize ZF (XQ p.routes) x.types.length=R at *
   simp (disch:=first | omega | (simp only [List.length_cons,List.length_nil,List.length_append,List.length_map,List.length_take,List.length_drop]<;>omega)) only [hrr,eq_self,go_sem,seval,↓reduceIte];refine Zj [2,29,30] (fun k:Nat=> [(31,.p (.int .i64 k))]) (fun _=> [Zk x,Zw p,.elems 1 (R.map eI)]) (fun k=>k<=x.types.length/\ ∀j,j<k->decide ((nth x.types j).count<XQ p.routes j)=false) (fun k=>x.types.length-k) 0 Zb (Weak.mk ?_) ?_
   ·simp (disch:=omega) only [Zk,Zw,go_sem,seval]
   ·rintro k ⟨hk,hno⟩;refine Kp ?_;refine cD ?_ ?_<;>intro h2<;>simp (disch:=omega) only [Sh.out h2,go_sem,seval,↓reduceIte]
    ·have hk2:k<x.types.length:=Za
     have he:YK (R.map eI) k= .int .i64 (XQ p.routes k):=by rw [Xe Za,hnt k hk2];rfl
     simp (disch:=first | omega | (simp only [List.length_cons,List.length_nil,List.length_append,List.length_map,List.length_take,List.length_drop]<;>omega)) only [he,hrr,hk2,eq_self,true_and,go_sem,seval,↓reduceIte];refine ZX ?_ ?_<;>intro h3
     ·grind
     ·exact ⟨k+1,⟨Za,Zl.2 ⟨hno,by grind⟩⟩,Za,wk⟩
    grind
def Vh (x:Inst) (us:List Int):Bool:=us.all fun u=>decide (0<=u)&&decide (u<(x.orders.length:Int))
theorem BX {x:Inst} {l:List Vis} (hi:Inr x l) (i:Nat) (h:i<=62):IntKind.i64.wrap ((BitVec.ofInt 64 ((YO l / pw i:Nat):Int)&&&1#64).toNat:Int)=if XR l (i:Int)=true then 1 else 0:=by
 have h1:=EG ((YO l / pw i:Nat):Int);rw [show BitVec.ofInt 64 1=1#64 from rfl] at h1;rw [h1]
 have h2:(YO l).testBit i=XR l (i:Int):=by
  rw [Bool.eq_iff_iff,J5,Vu]
  constructor
  ·rintro ⟨v,hv,e⟩;exact ⟨v,hv,by have:=hi v hv;omega⟩
  grind
 rw [<- h2,Nat.testBit_eq_decide_div_mod_eq];unfold pw
 grind
def G5 (x:Inst) (p:Pln) (c:Bool) (A B:List Int):List AM.Obj:= [Zk x,Zw p,.elems 1 ((if c=true then A else B).map eI),.elems 1 ((if c=true then B else A).map eI)]
theorem B3 (x:Inst) (p:Pln) (hn:x.orders.length<=10) (hr:p.routes.length<=1048576) (hu:p.unserved.length<=1048576) (hv: ∀r∈p.routes,Inr x r.visits/\r.visits.length<=1048576) :
  ACalls Tryz.prog 83 [.p (Xt x),.p (Ws p)] [] fun y H'=>y=(if Vh x p.unserved=true then .tup [.p (.list false ((ZF (ZA p.routes) x.orders.length).map eI)),.p (.list false ((ZF (Z2 p.unserved) x.orders.length).map eI)),.p (.bool true)] else .tup [.p (.list true []),.p (.list true []),.p (.bool false)])/\H'= []:=by
 refine Zg [1,19] Tryz.func83 rfl mM ?_;simp (disch:=omega) only [Tryz.f83,go_sem,seval]
 have hz:List.replicate x.orders.length (PV.int .i64 0)=(ZF (fun _=>0) x.orders.length).map eI:=by
  rw [ZF,List.map_map];rw [show (eI∘fun _:Nat=>(0:Int))=fun _=>PV.int .i64 0 from rfl,List.map_const',List.length_range]
 have hrl: ∀f,(ZF f x.orders.length).length=x.orders.length:=fun f=>Qb;refine Zq [2,3] (fun c:Bool=> [(4,.sl (if c=true then 2 else 3) 0 x.orders.length x.orders.length),(5,.sl (if c=true then 3 else 2) 0 x.orders.length x.orders.length),(6,.p (.bool false))]) (fun c=>G5 x p c (ZF (fun _=>0) x.orders.length) (ZF (fun _=>0) x.orders.length)) (fun _=>True) ?_ ?_
 ·refine Zf ?_;refine Y1 [3,7,8] 9 mixed Ze Ze Ze Zb (Zf ?_);refine VU 3 7 _ _ _ _ Ze (by refine Zf ?_;exact ⟨rfl,rfl⟩) (by refine Zf ?_;exact ⟨rfl,rfl⟩) ?_ ?_
  ·refine VU 7 8 _ _ _ _ Ze (by refine Zf ?_;exact ⟨rfl,rfl⟩) (by refine Zf ?_;exact ⟨rfl,rfl⟩) ?_ ?_
   ·refine Z8 8 _ _ Ze (by refine Zf ?_;exact ⟨rfl,rfl⟩) (YM ?_);refine Zf ?_;exact ⟨true,Weak.mk (by simp (disch:=omega) only [G5,Zk,Zw,hz,go_sem,seval,↓reduceIte])⟩
   ·refine Z8 7 _ _ Ze (by refine Zf ?_;exact ⟨rfl,rfl⟩) (YM ?_);refine Zf ?_;exact ⟨true,Weak.mk (by simp (disch:=omega) only [G5,Zk,Zw,hz,go_sem,seval,↓reduceIte])⟩
  ·refine Z8 3 _ _ Ze (by refine Zf ?_;exact ⟨rfl,rfl⟩) (Z8 8 _ _ Ze (by refine Zf ?_;exact ⟨rfl,rfl⟩) (YM ?_));refine Zf ?_;exact ⟨false,Weak.mk (by simp (disch:=omega) only [G5,Zk,Zw,hz,Bool.false_eq_true,go_sem,seval,↓reduceIte])⟩
 ·intro c _;have hb: ∀k,k<p.routes.length->A6 (nth p.routes k).visits=(((YO (nth p.routes k).visits:Nat):Int),0):=fun k hk=>Ft (hv _ (Zu hk)).1 hn
  have hz2:ZF (fun _=>0) x.orders.length=ZF (ZA (p.routes.take 0)) x.orders.length:=Yo fun i _=>by simp [ZA]
  have hz3:ZF (fun _=>0) x.orders.length=ZF (Z2 (p.unserved.take 0)) x.orders.length:=Yo fun i _=>by simp [Z2]
  cases c
  ·refine Zd [19] _ _ _ _ ?_;simp (disch:=omega) only [G5,Zk,Zw,Bool.false_eq_true,go_sem,seval];refine ZH [19] [2,3,4,5,23,24] (fun k:Nat=> [(25,.p (.int .i64 k))]) (fun k=> [Zk x,Zw p,.elems 1 ((ZF (fun _=>0) x.orders.length).map eI),.elems 1 ((ZF (ZA (p.routes.take k)) x.orders.length).map eI)]) (fun k=>k<=p.routes.length) (fun k=>p.routes.length-k) 0 Zb (Weak.mk ?_) ?_
   ·simp (disch:=omega) only [Zk,Zw,hz2,List.take_zero,go_sem,seval]
   ·intro k hk;refine Kp ?_;refine cD ?_ ?_<;>intro h1<;>simp (disch:=omega) only [Sh.out h1,go_sem,seval,↓reduceIte]
    ·have hk2:k<p.routes.length:=Za
     obtain ⟨v1,v2⟩:=hv _ (Zu hk2);have hso:=VF (nth p.routes k) v2;rw [hb k hk2] at hso;refine X3 hso ?_;have hr0:=hrl (ZA (p.routes.take k));simp (disch:=first | omega | (simp only [List.length_cons,List.length_nil,List.length_append,List.length_map,List.length_take,List.length_drop]<;>omega)) only [hr0,eq_self,go_sem,seval,↓reduceIte];refine Zj [2,3,4,5,9,23,24,25,35] (fun i:Nat=> [(36,.p (.int .i64 i))]) (fun i=> [Zk x,Zw p,.elems 1 ((ZF (fun _=>0) x.orders.length).map eI),.elems 1 ((ZF (fun j=>if j<i then ZA (p.routes.take (k+1)) j else ZA (p.routes.take k) j) x.orders.length).map eI),ZN (nth p.routes k)]) (fun i=>i<=x.orders.length) (fun i=>x.orders.length-i) 0 Zb (Weak.mk ?_) ?_
     ·simp (disch:=omega) only [Zk,Zw,ZN,go_sem,seval]
      congr 1
     ·intro i hi;have hri:=hrl (fun j=>if j<i then ZA (p.routes.take (k+1)) j else ZA (p.routes.take k) j);simp (disch:=omega) only [Zk,Zw,ZN,go_sem,seval];refine ZX ?_ ?_<;>intro h2
      ·have hi2:i<x.orders.length:=Za
       have hsu:=KW hk2 i;have hrg:=JB (rs:=p.routes) (k:=k) i;have hbt:=ER v1 i Za
       have hn1:nth (ZF (fun j=>if j<i then ZA (p.routes.take (k+1)) j else ZA (p.routes.take k) j) x.orders.length) i=ZA (p.routes.take k) i:=by simp_all [Ys]
       have he:YK ((ZF (fun j=>if j<i then ZA (p.routes.take (k+1)) j else ZA (p.routes.take k) j) x.orders.length).map eI) i= .int .i64 (ZA (p.routes.take k) i):=by rw [Xe Za,hn1];rfl
       have Zx:((ZF (fun j=>if j<i then ZA (p.routes.take (k+1)) j else ZA (p.routes.take k) j) x.orders.length).map eI).set i (.int .i64 (ZA (p.routes.take (k+1)) i))=(ZF (fun j=>if j<i+1 then ZA (p.routes.take (k+1)) j else ZA (p.routes.take k) j) x.orders.length).map eI:=by
        have h0:=VD (f:=fun j=>if j<i then ZA (p.routes.take (k+1)) j else ZA (p.routes.take k) j) (n:=x.orders.length) (j:=i) (v:=ZA (p.routes.take (k+1)) i);rw [show PV.int IntKind.i64 (ZA (p.routes.take (k+1)) i)=eI (ZA (p.routes.take (k+1)) i) from rfl,<- List.map_set,h0]
        congr 1
        refine Yo fun j _=> ?_
        grind
       refine Zv 9 mixed Ze Ze ?_;refine Zf ?_;simp (disch:=first | omega | (simp only [List.length_cons,List.length_nil,List.length_append,List.length_map,List.length_take,List.length_drop]<;>omega)) only [he,hri,hi2,eq_self,true_and,go_sem,seval];refine ⟨i+1,Za,Za,Weak.mk ?_⟩;have hbs:=BX v1 i Za
       have hw:IntKind.i64.wrap (ZA (p.routes.take k) i+(if XR (nth p.routes k).visits (i:Int)=true then 1 else 0))=ZA (p.routes.take (k+1)) i:=by
        rw [hsu]
        split
        ·grind [IntWalk.i64_in]
        ·rw [Int.add_zero];grind [IntWalk.i64_in]
       refine Zf ?_
       erw [hbs]
       grind
      ·have hin:i=x.orders.length:=Za
       have hfin:ZF (fun j=>if j<i then ZA (p.routes.take (k+1)) j else ZA (p.routes.take k) j) x.orders.length=ZF (ZA (p.routes.take (k+1))) x.orders.length:=Yo fun j hj=>Za
       exact ⟨k+1,Za,Za,Weak.mk (by simp (disch:=omega) only [hfin,go_sem,seval])⟩
    ·have hkl:k=p.routes.length:=Za
     subst hkl;rw [List.take_length];refine ZH [19] [2,52,53] (fun k:Nat=> [(4,.sl 3 0 x.orders.length x.orders.length),(5,.sl 2 0 x.orders.length x.orders.length),(54,.p (.int .i64 k))]) (fun k=> [Zk x,Zw p,.elems 1 ((ZF (Z2 (p.unserved.take k)) x.orders.length).map eI),.elems 1 ((ZF (ZA p.routes) x.orders.length).map eI)]) (fun k=>k<=p.unserved.length/\ ∀j,j<k->0<=nth p.unserved j/\nth p.unserved j<(x.orders.length:Int)) (fun k=>p.unserved.length-k) 0 Zb (Weak.mk ?_) ?_
     ·simp (disch:=omega) only [Zk,Zw,hz3,List.take_zero,go_sem,seval]
     ·rintro k ⟨hk,hno⟩;refine Kp ?_
      have hbad:k<p.unserved.length->(decide (0<=nth p.unserved k)&&decide (nth p.unserved k<(x.orders.length:Int)))=false->Vh x p.unserved=false:=fun h1 h2=>by
       grind [Vh,Zu]
      refine cD ?_ ?_<;>intro h2<;>simp (disch:=omega) only [Sh.out h2,go_sem,seval,↓reduceIte]
      ·have hk2:k<p.unserved.length:=Za
       refine gF ?_ ?_<;>intro h3<;>simp (disch:=omega) only [Sh.out h3,go_sem,seval,↓reduceIte]
       ·rw [hbad hk2 (by simp;omega)];exact we (by simp (disch:=omega) only [go_sem,seval,↓reduceIte])
       ·refine cD ?_ ?_<;>intro h4<;>simp (disch:=omega) only [Sh.out h4,go_sem,seval]
        ·rw [hbad hk2 (by simp;omega)];exact we (by simp (disch:=omega) only [go_sem,seval,↓reduceIte])
        ·have hui:(nth p.unserved k).toNat<x.orders.length:=Za
         have hsu:=KX hk2;have hg:=JC (us:=p.unserved) (k:=k) (nth p.unserved k).toNat;have hrr:=hrl (Z2 (p.unserved.take k))
         have hnx:(ZF (Z2 (p.unserved.take k)) x.orders.length).set (nth p.unserved k).toNat (Z2 (p.unserved.take k) (nth p.unserved k).toNat+1)=ZF (Z2 (p.unserved.take (k+1))) x.orders.length:=by
          rw [VD];refine Yo fun i _=> ?_
          grind
         have he:YK ((ZF (Z2 (p.unserved.take k)) x.orders.length).map eI) (nth p.unserved k).toNat= .int .i64 (Z2 (p.unserved.take k) (nth p.unserved k).toNat):=by rw [Xe Za,Ys hui];rfl
         have Zx:((ZF (Z2 (p.unserved.take k)) x.orders.length).map eI).set (nth p.unserved k).toNat (.int .i64 (Z2 (p.unserved.take k) (nth p.unserved k).toNat+1))=(ZF (Z2 (p.unserved.take (k+1))) x.orders.length).map eI:=by rw [<- hnx,List.map_set];rfl
         generalize Z2 (p.unserved.take k) (nth p.unserved k).toNat=c at *
         simp (disch:=first | omega | (simp only [List.length_cons,List.length_nil,List.length_append,List.length_map,List.length_take,List.length_drop]<;>omega)) only [he,hrr,hui,eq_self,true_and,go_sem,seval];exact ⟨k+1,⟨Za,Zl.2 ⟨hno,Za⟩⟩,Za,Weak.mk (by simp (disch:=omega) only [Zx,go_sem,seval])⟩
      ·have hkl:k=p.unserved.length:=Za
       subst hkl
       have Z7:Vh x p.unserved=true:=by
        rw [Vh,List.all_eq_true];intro u hu;obtain ⟨j,hj,rfl⟩:=List.mem_iff_getElem.1 hu
        grind [Zi]
       rw [Z7,List.take_length];have r1:=hrl (ZA p.routes);have r2:=hrl (Z2 p.unserved);refine Zr (Weak.fz (o:=2) (by rfl)) ?_;refine Zr (Weak.fz (o:=3) (by rfl)) (Zd [] _ _ _ _ (Ql ?_));rw [if_pos r1,if_pos r2];refine Zf ?_;exact we
  ·refine Zd [19] _ _ _ _ ?_;simp (disch:=omega) only [G5,Zk,Zw,go_sem,seval];refine ZH [19] [2,3,4,5,23,24] (fun k:Nat=> [(25,.p (.int .i64 k))]) (fun k=> [Zk x,Zw p,.elems 1 ((ZF (ZA (p.routes.take k)) x.orders.length).map eI),.elems 1 ((ZF (fun _=>0) x.orders.length).map eI)]) (fun k=>k<=p.routes.length) (fun k=>p.routes.length-k) 0 Zb (Weak.mk ?_) ?_
   ·simp (disch:=omega) only [Zk,Zw,hz2,List.take_zero,go_sem,seval]
   ·intro k hk;refine Kp ?_;refine cD ?_ ?_<;>intro h1<;>simp (disch:=omega) only [Sh.out h1,go_sem,seval,↓reduceIte]
    ·have hk2:k<p.routes.length:=Za
     obtain ⟨v1,v2⟩:=hv _ (Zu hk2);have hso:=VF (nth p.routes k) v2;rw [hb k hk2] at hso;refine X3 hso ?_;have hr0:=hrl (ZA (p.routes.take k));simp (disch:=first | omega | (simp only [List.length_cons,List.length_nil,List.length_append,List.length_map,List.length_take,List.length_drop]<;>omega)) only [hr0,eq_self,go_sem,seval,↓reduceIte];refine Zj [2,3,4,5,9,23,24,25,35] (fun i:Nat=> [(36,.p (.int .i64 i))]) (fun i=> [Zk x,Zw p,.elems 1 ((ZF (fun j=>if j<i then ZA (p.routes.take (k+1)) j else ZA (p.routes.take k) j) x.orders.length).map eI),.elems 1 ((ZF (fun _=>0) x.orders.length).map eI),ZN (nth p.routes k)]) (fun i=>i<=x.orders.length) (fun i=>x.orders.length-i) 0 Zb (Weak.mk ?_) ?_
     ·simp (disch:=omega) only [Zk,Zw,ZN,go_sem,seval]
      congr 1
     ·intro i hi;have hri:=hrl (fun j=>if j<i then ZA (p.routes.take (k+1)) j else ZA (p.routes.take k) j);simp (disch:=omega) only [Zk,Zw,ZN,go_sem,seval];refine ZX ?_ ?_<;>intro h2
      ·have hi2:i<x.orders.length:=Za
       have hsu:=KW hk2 i;have hrg:=JB (rs:=p.routes) (k:=k) i;have hbt:=ER v1 i Za
       have hn1:nth (ZF (fun j=>if j<i then ZA (p.routes.take (k+1)) j else ZA (p.routes.take k) j) x.orders.length) i=ZA (p.routes.take k) i:=by simp_all [Ys]
       have he:YK ((ZF (fun j=>if j<i then ZA (p.routes.take (k+1)) j else ZA (p.routes.take k) j) x.orders.length).map eI) i= .int .i64 (ZA (p.routes.take k) i):=by rw [Xe Za,hn1];rfl
       have Zx:((ZF (fun j=>if j<i then ZA (p.routes.take (k+1)) j else ZA (p.routes.take k) j) x.orders.length).map eI).set i (.int .i64 (ZA (p.routes.take (k+1)) i))=(ZF (fun j=>if j<i+1 then ZA (p.routes.take (k+1)) j else ZA (p.routes.take k) j) x.orders.length).map eI:=by
        have h0:=VD (f:=fun j=>if j<i then ZA (p.routes.take (k+1)) j else ZA (p.routes.take k) j) (n:=x.orders.length) (j:=i) (v:=ZA (p.routes.take (k+1)) i);rw [show PV.int IntKind.i64 (ZA (p.routes.take (k+1)) i)=eI (ZA (p.routes.take (k+1)) i) from rfl,<- List.map_set,h0]
        congr 1
        refine Yo fun j _=> ?_
        grind
       refine Zv 9 mixed Ze Ze ?_;refine Zf ?_;simp (disch:=first | omega | (simp only [List.length_cons,List.length_nil,List.length_append,List.length_map,List.length_take,List.length_drop]<;>omega)) only [he,hri,hi2,eq_self,true_and,go_sem,seval];refine ⟨i+1,Za,Za,Weak.mk ?_⟩;have hbs:=BX v1 i Za
       have hw:IntKind.i64.wrap (ZA (p.routes.take k) i+(if XR (nth p.routes k).visits (i:Int)=true then 1 else 0))=ZA (p.routes.take (k+1)) i:=by
        rw [hsu]
        split
        ·grind [IntWalk.i64_in]
        ·rw [Int.add_zero];grind [IntWalk.i64_in]
       refine Zf ?_
       erw [hbs]
       grind
      ·have hin:i=x.orders.length:=Za
       have hfin:ZF (fun j=>if j<i then ZA (p.routes.take (k+1)) j else ZA (p.routes.take k) j) x.orders.length=ZF (ZA (p.routes.take (k+1))) x.orders.length:=Yo fun j hj=>Za
       exact ⟨k+1,Za,Za,Weak.mk (by simp (disch:=omega) only [hfin,go_sem,seval])⟩
    ·have hkl:k=p.routes.length:=Za
     subst hkl;rw [List.take_length];refine ZH [19] [2,52,53] (fun k:Nat=> [(4,.sl 2 0 x.orders.length x.orders.length),(5,.sl 3 0 x.orders.length x.orders.length),(54,.p (.int .i64 k))]) (fun k=> [Zk x,Zw p,.elems 1 ((ZF (ZA p.routes) x.orders.length).map eI),.elems 1 ((ZF (Z2 (p.unserved.take k)) x.orders.length).map eI)]) (fun k=>k<=p.unserved.length/\ ∀j,j<k->0<=nth p.unserved j/\nth p.unserved j<(x.orders.length:Int)) (fun k=>p.unserved.length-k) 0 Zb (Weak.mk ?_) ?_
     ·simp (disch:=omega) only [Zk,Zw,hz3,List.take_zero,go_sem,seval]
     ·rintro k ⟨hk,hno⟩;refine Kp ?_
      have hbad:k<p.unserved.length->(decide (0<=nth p.unserved k)&&decide (nth p.unserved k<(x.orders.length:Int)))=false->Vh x p.unserved=false:=fun h1 h2=>by
       grind [Vh,Zu]
      refine cD ?_ ?_<;>intro h2<;>simp (disch:=omega) only [Sh.out h2,go_sem,seval,↓reduceIte]
      ·have hk2:k<p.unserved.length:=Za
       refine gF ?_ ?_<;>intro h3<;>simp (disch:=omega) only [Sh.out h3,go_sem,seval,↓reduceIte]
       ·rw [hbad hk2 (by simp;omega)];exact we (by simp (disch:=omega) only [go_sem,seval,↓reduceIte])
       ·refine cD ?_ ?_<;>intro h4<;>simp (disch:=omega) only [Sh.out h4,go_sem,seval]
        ·rw [hbad hk2 (by simp;omega)];exact we (by simp (disch:=omega) only [go_sem,seval,↓reduceIte])
        ·have hui:(nth p.unserved k).toNat<x.orders.length:=Za
         have hsu:=KX hk2;have hg:=JC (us:=p.unserved) (k:=k) (nth p.unserved k).toNat;have hrr:=hrl (Z2 (p.unserved.take k))
         have hnx:(ZF (Z2 (p.unserved.take k)) x.orders.length).set (nth p.unserved k).toNat (Z2 (p.unserved.take k) (nth p.unserved k).toNat+1)=ZF (Z2 (p.unserved.take (k+1))) x.orders.length:=by
          rw [VD];refine Yo fun i _=> ?_
          grind
         have he:YK ((ZF (Z2 (p.unserved.take k)) x.orders.length).map eI) (nth p.unserved k).toNat= .int .i64 (Z2 (p.unserved.take k) (nth p.unserved k).toNat):=by rw [Xe Za,Ys hui];rfl
         have Zx:((ZF (Z2 (p.unserved.take k)) x.orders.length).map eI).set (nth p.unserved k).toNat (.int .i64 (Z2 (p.unserved.take k) (nth p.unserved k).toNat+1))=(ZF (Z2 (p.unserved.take (k+1))) x.orders.length).map eI:=by rw [<- hnx,List.map_set];rfl
         generalize Z2 (p.unserved.take k) (nth p.unserved k).toNat=c at *
         simp (disch:=first | omega | (simp only [List.length_cons,List.length_nil,List.length_append,List.length_map,List.length_take,List.length_drop]<;>omega)) only [he,hrr,hui,eq_self,true_and,go_sem,seval];exact ⟨k+1,⟨Za,Zl.2 ⟨hno,Za⟩⟩,Za,Weak.mk (by simp (disch:=omega) only [Zx,go_sem,seval])⟩
      ·have hkl:k=p.unserved.length:=Za
       subst hkl
       have Z7:Vh x p.unserved=true:=by
        rw [Vh,List.all_eq_true];intro u hu;obtain ⟨j,hj,rfl⟩:=List.mem_iff_getElem.1 hu
        grind [Zi]
       rw [Z7,List.take_length];have r1:=hrl (ZA p.routes);have r2:=hrl (Z2 p.unserved);refine Zr (Weak.fz (o:=2) (by rfl)) ?_;refine Zr (Weak.fz (o:=3) (by rfl)) (Zd [] _ _ _ _ (Ql ?_));rw [if_pos r1,if_pos r2];refine Zf ?_;exact we
def V3 (x:Inst):List Rte->Int
 | []=>0
 | r::l=>if Z3 x r=0 then V3 x l else Z3 x r
theorem E1 {x:Inst} : ∀ {l:List Rte} {k:Nat},k<l.length->(∀j,j<k->Z3 x (nth l j)=0)-> ¬Z3 x (nth l k)=0->V3 x l=Z3 x (nth l k)
 | r::l,0,_,_,h=>by rw [V3,if_neg (show ¬Z3 x r=0 from h)];rfl
 | r::l,k+1,hk,h0,h=>by
  rw [V3,if_pos (show Z3 x r=0 from h0 0 Za)];exact E1 (l:=l) (k:=k) (by grind) (fun j hj=>h0 (j+1) Za) h
theorem E3 {x:Inst} : ∀ {l:List Rte},(∀j,j<l.length->Z3 x (nth l j)=0)->V3 x l=0
 | [],_=>rfl
 | r::l,h=>by
  rw [V3,if_pos (show Z3 x r=0 from h 0 Zb)];exact E3 fun j hj=>h (j+1) (by grind)
def X7 (x:Inst) (p:Pln) (R U:List Int):List AM.Obj:= [Zk x,Zw p,.cells [.p (.list false (R.map eI))],.cells [.p (.list false (U.map eI))]]
theorem C1 {P Q:Prop} (h:Q) (e:Q->P:=by intro h;simp (disch:=omega) only [X7,Zk,Zw,go_sem,seval];exact h):P:=e h
theorem Eo (x:Inst) (p:Pln) (R U:List Int) (ho:x.orders.length<=1048576) (g:FuncId) (caps:List V) (f:Nat->Bool) (hc:ZE 4 caps=true)
  (hg: ∀i,i<x.orders.length->ACalls Tryz.prog g (.p (.int .i64 (i:Nat)):: .p (Yz (nth x.orders i))::caps) (X7 x p R U) fun y H'=>y= .p (.bool (f i))/\H'=X7 x p R U) :
  ACalls Tryz.prog 84 [.fn (.func g) [] caps,.ptr 0 0] (X7 x p R U) fun y H'=>y= .p (.bool ((List.range x.orders.length).any f))/\H'=X7 x p R U:=by
 refine Zg [] Tryz.func84 rfl mN ?_;simp (disch:=omega) only [Tryz.f84,X7,Zk,Zw,go_sem,seval];refine Zj [0,7,8] (fun k:Nat=> [(9,.p (.int .i64 k))]) (fun _=>X7 x p R U) (fun k=>k<=x.orders.length/\ ∀j,j<k->f j=false) (fun k=>x.orders.length-k) 0 Zb (Weak.mk ?_) ?_
 ·simp (disch:=omega) only [X7,Zk,Zw,hc,go_sem,seval,↓reduceIte]
 ·rintro k ⟨hk,hno⟩;refine C1 ?_;refine cD ?_ ?_<;>intro h1<;>simp (disch:=omega) only [Sh.out h1,go_sem,seval,↓reduceIte]
  ·have hk2:k<x.orders.length:=Za
   have hgk:=hg k hk2;refine hgk.useP (L:= [_]) (by rfl) ?_ (show ZE 4 (_::_::caps)=true by simp (disch:=omega) only [hc,go_sem,seval]) (by rfl);refine C1 ?_
   cases hf:f k with
   | true=> 
    have:(List.range x.orders.length).any f=true:=List.any_eq_true.2 ⟨k,List.mem_range.2 hk2,hf⟩;rw [this];refine Zf ?_;exact we
   | false =>
    refine Zf ?_;exact ⟨k+1,⟨Za,Zl.2 ⟨hno,hf⟩⟩,Za,Weak.mk (by simp (disch:=omega) only [hc,go_sem,seval])⟩
  ·have:(List.range x.orders.length).any f=false:=by
    grind
   rw [this];exact we
theorem Rf (x:Inst) (p:Pln) (R U:List Int) (o:Ord) (i:Nat) (hi:i<R.length) (hi2:i<U.length) (hl:R.length<=1048576/\U.length<=1048576) (hr:0<=nth R i/\nth R i<=1048576) (hu:0<=nth U i/\nth U i<=1048576) :
  ACalls Tryz.prog 85 [.p (.int .i64 (i:Nat)),.p (Yz o),.ptr 2 0,.ptr 3 0] (X7 x p R U) fun y H'=>y= .p (.bool (decide (1<nth R i+nth U i)))/\H'=X7 x p R U:=by
 refine Zg [] Tryz.func85 rfl mO ?_;simp (disch:=omega) only [Tryz.f85,X7,Zk,Zw,go_sem,seval];refine Xs (Zf ?_);exact we
theorem Rg (x:Inst) (p:Pln) (R U:List Int) (o:Ord) (i:Nat) (hi2:i<U.length) (hl:U.length<=1048576) :
  ACalls Tryz.prog 87 [.p (.int .i64 (i:Nat)),.p (Yz o),.ptr 3 0] (X7 x p R U) fun y H'=>y= .p (.bool (o.off&&decide (0<nth U i)))/\H'=X7 x p R U:=by
 refine Zg [] Tryz.func87 rfl mQ ?_;simp (disch:=omega) only [Tryz.f87,X7,Zk,Zw,go_sem,seval];refine gT ?_ ?_<;>intro h<;>simp (disch:=omega) only [Sh.out h,go_sem,seval,↓reduceIte]
 ·exact ⟨.p (.bool (decide (0<nth U i))),X7 x p R U,Weak.mk (by simp (disch:=omega) only [X7,Zk,Zw,go_sem,seval]),by simp [],rfl⟩
 ·exact ⟨.p (.bool false),X7 x p R U,Weak.mk (by simp (disch:=omega) only [X7,Zk,Zw,go_sem,seval]),by simp [],rfl⟩
theorem Rh (x:Inst) (p:Pln) (R U:List Int) (o:Ord) (i:Nat) (hi:i<R.length) (hi2:i<U.length) (hl:R.length<=1048576/\U.length<=1048576) (hr:0<=nth R i/\nth R i<=1048576) (hu:0<=nth U i/\nth U i<=1048576) :
  ACalls Tryz.prog 88 [.p (.int .i64 (i:Nat)),.p (Yz o),.ptr 2 0,.ptr 3 0] (X7 x p R U) fun y H'=>y= .p (.bool (!o.off&&(decide (nth R i+nth U i=0)||(decide (0<nth U i)&&decide (o.penalty= -1)))))/\H'=X7 x p R U:=by
 refine Zg [] Tryz.func88 rfl mR ?_;simp (disch:=omega) only [Tryz.f88,X7,Zk,Zw,go_sem,seval];refine Xs (Zf ?_);refine gT ?_ ?_<;>intro h1<;>simp (disch:=omega) only [Sh.out h1,go_sem,seval,↓reduceIte]
 ·refine gF ?_ ?_<;>intro h2<;>simp (disch:=omega) only [Sh.out h2,go_sem,seval,↓reduceIte]
  ·exact ⟨.p (.bool true),X7 x p R U,Weak.mk (by simp (disch:=omega) only [X7,Zk,Zw,go_sem,seval]),by grind,rfl⟩
  ·refine gT ?_ ?_<;>intro h3<;>simp (disch:=omega) only [Sh.out h3,go_sem,seval,↓reduceIte]
   ·exact ⟨.p (.bool (decide (o.penalty= -1))),X7 x p R U,Weak.mk (by simp (disch:=omega) only [X7,Zk,Zw,go_sem,seval]),by grind,rfl⟩
   ·exact ⟨.p (.bool false),X7 x p R U,Weak.mk (by simp (disch:=omega) only [X7,Zk,Zw,go_sem,seval]),by grind,rfl⟩
 ·exact ⟨.p (.bool false),X7 x p R U,Weak.mk (by simp (disch:=omega) only [X7,Zk,Zw,go_sem,seval]),by rfl,rfl⟩
def I8 (p:Pln) (i:Nat):Int:=ZA p.routes i+Z2 p.unserved i
def UH (x:Inst) (p:Pln):Bool:=(List.range x.orders.length).any fun i=>decide (1<I8 p i)
def Vm (x:Inst) (p:Pln):Bool:=(List.range x.types.length).any fun t=>decide ((nth x.types t).count<XQ p.routes t)
def VH (x:Inst) (p:Pln):Bool:=(List.range x.orders.length).any fun i=>(nth x.orders i).off&&decide (0<Z2 p.unserved i)
def Q1 (x:Inst) (p:Pln):Bool:=(List.range x.orders.length).any fun i=> !(nth x.orders i).off&&(decide (I8 p i=0)||(decide (0<Z2 p.unserved i)&&decide ((nth x.orders i).penalty= -1)))
def XP (x:Inst) (p:Pln):Int :=
 if ¬V3 x p.routes=0 then V3 x p.routes
 else if Vh x p.unserved=false then 2
 else if UH x p=true then 6
 else if Vm x p=true then 22
 else if VH x p=true then 9
 else if Q1 x p=true then 23
 else 0
theorem Ju {n:Nat} {f g:Nat->Bool} (h: ∀i,i<n->f i=g i):(List.range n).any f=(List.range n).any g:=by
 grind
theorem HU {rs:List Rte} (i:Nat):0<=ZA rs i/\ZA rs i<=rs.length:=by
 have:=JB (rs:=rs) (k:=rs.length) i
 grind
theorem HW {us:List Int} (i:Nat):0<=Z2 us i/\Z2 us i<=us.length:=by
 have:=JC (us:=us) (k:=us.length) i
 grind
theorem O4 {x:Inst} (hx:InstOk x):x.orders.length<=10:=by have:=hx.orders.1;omega
theorem xU {x:Inst} (hx:InstOk x):x.types.length<=6:=by have:=hx.types.1;simp only [rng,decide_eq_true_eq] at this;omega
theorem Lj (x:Inst) (p:Pln) (hx:InstOk x) (hr:p.routes.length<=1048576) (hu:p.unserved.length<=1048576) (hb: ∀r∈p.routes,Vf r) :
  PC 38 [.p (Xt x),.p (Ws p)] (.int .i64 (XP x p)):=by
 have hn:=O4 hx;have ht:=xU hx;have c2:=fun (hv: ∀r∈p.routes,Inr x r.visits/\r.visits.length<=1048576)=>B3 x p hn hr hu hv;refine Zg [] Tryz.func38 rfl lF ?_;simp (disch:=omega) only [Tryz.f38,go_sem,seval];refine Zj [2,3,13,14] (fun k:Nat=> [(15,.p (.int .i64 k))]) (fun _=> [Zk x,Zw p]) (fun k=>k<=p.routes.length/\ ∀j,j<k->Z3 x (nth p.routes j)=0) (fun k=>p.routes.length-k) 0 Zb (Weak.mk ?_) ?_
 ·simp (disch:=omega) only [Zk,Zw,go_sem,seval]
 ·rintro k ⟨hk,h0⟩;refine Kp ?_;refine cD ?_ ?_<;>intro h1<;>simp (disch:=omega) only [Sh.out h1,go_sem,seval,↓reduceIte]
  ·have hk2:k<p.routes.length:=Za
   obtain ⟨b1,b2⟩:=hb _ (Zu hk2);refine (Lq x (nth p.routes k) hx b1 b2).use (Zf ?_);refine ZX ?_ ?_<;>intro h2
   ·have he:XP x p=Z3 x (nth p.routes k):=by
     have e:=E1 hk2 h0 h2
     simp_all [XP]
    rw [he];exact we
   ·exact ⟨k+1,⟨Za,Zl.2 ⟨h0,Za⟩⟩,Za,wk⟩
  ·have hkl:k=p.routes.length:=Za
   subst hkl;have her:=E3 h0
   have Z7: ∀r∈p.routes,Z3 x r=0:=fun r hr=>by
    obtain ⟨j,hj,rfl⟩:=List.mem_iff_getElem.1 hr
    grind [Zi]
   have hv: ∀r∈p.routes,Inr x r.visits/\r.visits.length<=1048576:=fun r hr=>⟨(Wm (VX (Vs (Z7 r hr))).2.1).inr,(hb r hr).1⟩;have hty: ∀r∈p.routes,0<=r.typ/\r.typ<(x.types.length:Int):=fun r hr=>(VX (Vs (Z7 r hr))).1;have c2:=B3 x p hn hr hu hv;have cw:=KZ x p Za hr hty;have c0: ¬ ¬V3 x p.routes=0:=fun e=>e her
   have hR: ∀i,0<=ZA p.routes i/\ZA p.routes i<=1048576:=fun i=>by have:=HU (rs:=p.routes) i;omega
   have hU: ∀i,0<=Z2 p.unserved i/\Z2 p.unserved i<=1048576:=fun i=>by have:=HW (us:=p.unserved) i;omega
   have rl:(ZF (ZA p.routes) x.orders.length).length=x.orders.length:=Qb;have ul:(ZF (Z2 p.unserved) x.orders.length).length=x.orders.length:=Qb;have rn: ∀i,i<x.orders.length->nth (ZF (ZA p.routes) x.orders.length) i=ZA p.routes i:=fun i hi=>Ys hi;have un: ∀i,i<x.orders.length->nth (ZF (Z2 p.unserved) x.orders.length) i=Z2 p.unserved i:=fun i hi=>Ys hi
   by_cases hub:Vh x p.unserved=true
   ·rw [if_pos hub] at c2;refine Bp c2 ?_
    generalize ZF (ZA p.routes) x.orders.length=R at *
    generalize ZF (Z2 p.unserved) x.orders.length=U at *
    have c1: ¬Vh x p.unserved=false:=by grind
    refine Zf ?_;have k2:=Eo x p R U Za 85 [.ptr 2 0,.ptr 3 0] (fun i=>decide (1<nth R i+nth U i)) (by rfl) fun i hi=>Rf x p R U _ i Za Za ⟨Za,Za⟩ (by grind) (by grind);rw [show (List.range x.orders.length).any (fun i=>decide (1<nth R i+nth U i))=UH x p from Ju fun i hi=>by rw [rn i hi,un i hi];rfl] at k2;refine k2.mono ?_;rintro y H' ⟨rfl,rfl⟩;refine C1 ?_
    by_cases g1:UH x p=true
    ·have hv:XP x p=6:=by simp_all [XP]
     rw [hv];simp (disch:=omega) only [g1,go_sem,seval];exact we
    ·have g1':UH x p=false:=by grind
     simp (disch:=omega) only [g1',go_sem,seval];refine (KZ x p Za hr hty).use (Zf ?_)
     by_cases g2:Vm x p=true
     ·have hv:XP x p=22:=by simp_all [XP]
      rw [hv];unfold Vm at g2;simp (disch:=omega) only [g2,go_sem,seval];exact we
     ·have g2':Vm x p=false:=by grind
      unfold Vm at g2';simp (disch:=omega) only [g2',go_sem,seval];have k3:=Eo x p R U Za 87 [.ptr 3 0] (fun i=>(nth x.orders i).off&&decide (0<nth U i)) (by rfl) fun i hi=>Rg x p R U _ i Za Za;rw [show (List.range x.orders.length).any (fun i=>(nth x.orders i).off&&decide (0<nth U i))=VH x p from Ju fun i hi=>by rw [un i hi]] at k3;refine k3.mono ?_;rintro y H' ⟨rfl,rfl⟩;refine C1 ?_
      by_cases g3:VH x p=true
      ·have hv:XP x p=9:=by simp_all [XP]
       rw [hv];simp (disch:=omega) only [g3,go_sem,seval];exact we
      ·have g3':VH x p=false:=by grind
       simp (disch:=omega) only [g3',go_sem,seval];have k4:=Eo x p R U Za 88 [.ptr 2 0,.ptr 3 0] (fun i=> !(nth x.orders i).off&&(decide (nth R i+nth U i=0)||(decide (0<nth U i)&&decide ((nth x.orders i).penalty= -1)))) (by rfl) fun i hi=>Rh x p R U _ i Za Za ⟨Za,Za⟩ (by grind) (by grind);rw [show (List.range x.orders.length).any (fun i=> !(nth x.orders i).off&&(decide (nth R i+nth U i=0)||(decide (0<nth U i)&&decide ((nth x.orders i).penalty= -1))))=Q1 x p from Ju fun i hi=>by rw [rn i hi,un i hi];rfl] at k4;refine k4.mono ?_
       rintro y H' ⟨rfl,rfl⟩;refine C1 ?_
       by_cases g4:Q1 x p=true
       ·have hv:XP x p=23:=by simp_all [XP]
        rw [hv];simp (disch:=omega) only [g4,go_sem,seval];exact we
       ·have hv:XP x p=0:=by simp_all [XP]
        rw [hv]
        have g4':Q1 x p=false:=by grind
        simp (disch:=omega) only [g4',go_sem,seval];exact we
   ·rw [if_neg hub] at c2;refine Bp c2 ?_
    have c1:Vh x p.unserved=false:=by grind
    have hv:XP x p=2:=by simp_all [XP]
    rw [hv];refine Zf ?_;exact we
theorem C6 {x:Inst} (hx:InstOk x) (i:Int):Y7 1073741824 (Wg x i).1:=by
 unfold Wg
 split
 ·simp [Y7,zSco]
 ·split
  ·simp [Y7,zSco]
  ·split
   ·simp [Y7,zSco]
   ·have ha:=(hx.orders.2 i.toNat Za).arg;simp only [argOk,rng,Bool.and_eq_true,decide_eq_true_eq] at ha
    grind [Y7]
theorem Kk {a b:Sco} {B C:Int} (ha:Y7 B a) (hb:Y7 C b):Y7 (B+C) (XN a b):=by
 grind [Y7,XN]
theorem Ym {a:Sco} {B C:Int} (h:B<=C) (ha:Y7 B a):Y7 C a:=by
 grind [Y7]
theorem K0 {x:Inst} {r:Rte} (hx:InstOk x) (hl:r.visits.length<=1048576) (h:Z3 x r=0):Y7 1073741824 (Uf x r):=by
 have hg:=Ie hx h;obtain ⟨hty,_,_⟩:=VX (Vs h);have hnum:=Kw hx (show r.typ.toNat<x.types.length by omega);have htyp:nth x.types r.typ.toNat=Z1 x r:=rfl;rw [htyp] at hnum
 have e:(XK x r).1=WG x r:=by rw [WG,if_pos h]
 have hch:=Jz (x:=x) (l:=r.visits) (t:=r.typ) r.visits.length;rw [Uf,if_pos h,e];unfold LX Y7
 generalize WG x r=s at *
 generalize Z1 x r=t at *
 have p1:0<=t.perMile*s.miles/\t.perMile*s.miles<=100*210000:=⟨Int.mul_nonneg Za Za,Int.mul_le_mul Za Za Za Za⟩
 have hW: -8192<=s.fin-t.opn/\s.fin-t.opn<=8192:=Za
 have p2: -819200<=t.perTick*(s.fin-t.opn)/\t.perTick*(s.fin-t.opn)<=819200:=by
  generalize s.fin-t.opn=w at hW;have a1:=Int.mul_le_mul_of_nonneg_left hW.2 (show 0<=t.perTick by omega);have a2:=Int.mul_le_mul_of_nonneg_left hW.1 (show 0<=t.perTick by omega);omega
 have p3: -128<=(s.fin-t.opn).tdiv 64/\(s.fin-t.opn).tdiv 64<=128:=by
  grind
 have p4:0<=(s.fin-t.opn).tdiv 64*(s.fin-t.opn).tdiv 64/\(s.fin-t.opn).tdiv 64*(s.fin-t.opn).tdiv 64<=16384:=by
  generalize (s.fin-t.opn).tdiv 64=q at p3;refine ⟨?_,?_⟩
  ·rcases Int.le_total 0 q with h | h
   ·exact Int.mul_nonneg h h
   ·exact Int.mul_nonneg_of_nonpos_of_nonpos h h
  ·rcases Int.le_total 0 q with h | h
   ·have:=Int.mul_le_mul p3.2 p3.2 h Za;omega
   ·have h2:0<= -q:=Za
    have:=Int.mul_le_mul (show-q<=128 by omega) (show-q<=128 by omega) h2 Za
    grind
 grind
theorem Fz {p:Pln} (hp:p.wf 1048576): ∀r∈p.routes,Vf r:=fun r hr=>by
 obtain ⟨_,_,w1,_,w2,_⟩:=hp.2.1 r hr;exact ⟨w2,w1⟩
theorem JF {x:Inst} {l:List Rte} :V3 x l=0↔ ∀r∈l,Z3 x r=0:=by
 induction l with
 | nil=>simp [V3]
 | cons r l ih =>
  rw [V3]
  grind
def Qo (x:Inst) (l:List Rte):Sco:=l.foldl (fun s r=>XN s (Uf x r)) zSco
def Kt (x:Inst) (s:Sco) (l:List Int):Sco:=l.foldl (fun s i=>XN s (Wg x i).1) s
theorem Ay {x:Inst} {l:List Rte} {k:Nat} (h:k<l.length):Qo x (l.take (k+1))=XN (Qo x (l.take k)) (Uf x (nth l k)):=by
 grind [Qo,List.take_succ_eq_append_getElem,Zi]
theorem Az {x:Inst} {s:Sco} {l:List Int} {k:Nat} (h:k<l.length):Kt x s (l.take (k+1))=XN (Kt x s (l.take k)) (Wg x (nth l k)).1:=by
 grind [Kt,List.take_succ_eq_append_getElem,Zi]
theorem Ks {x:Inst} {l:List Rte} (hx:InstOk x) (hb: ∀r∈l,Vf r) (h: ∀r∈l,Z3 x r=0): ∀k:Nat,k<=l.length->Y7 (1073741824*k) (Qo x (l.take k))
 | 0,_=>by simp [Qo,Y7,zSco]
 | k+1,hk=>by
  rw [Ay Za];have hm:=Zu (l:=l) (show k<l.length by omega);exact Ym Za (Kk (Ks hx hb h k Za) (K0 hx (hb _ hm).1 (h _ hm)))
theorem Ku {x:Inst} {s:Sco} {l:List Int} {B:Int} (hx:InstOk x) (hs:Y7 B s): ∀k:Nat,k<=l.length->Y7 (B+1073741824*k) (Kt x s (l.take k))
 | 0,_=>by grind [Kt]
 | k+1,hk=>by
  rw [Az Za];exact Ym Za (Kk (Ku hx hs k Za) (C6 hx _))
def Qi (x:Inst) (p:Pln):Sco:=if XP x p=0 then Kt x (Qo x p.routes) p.unserved else zSco
theorem KV {x:Inst} {p:Pln} (h:XP x p=0):(∀r∈p.routes,Z3 x r=0)/\ ∀i∈p.unserved,(Wg x i).2=0:=by
 unfold XP at h
 split at h
 ·omega
 ·rename_i c0;have her:V3 x p.routes=0:=Classical.not_not.1 c0
  split at h
  ·simp at h
  ·rename_i c1
   split at h
   ·simp at h
   ·split at h
    ·simp at h
    ·split at h
     ·simp at h
     ·rename_i c4
      split at h
      ·simp at h
      ·rename_i c5;refine ⟨JF.1 her,fun u hu=> ?_⟩
       have hub:Vh x p.unserved=true:=by grind
       rw [Vh,List.all_eq_true] at hub;have h1:=hub u hu;simp only [Bool.and_eq_true,decide_eq_true_eq] at h1
       have hui:u.toNat<x.orders.length:=Za
       have hcu:0<Z2 p.unserved u.toNat:=by
        unfold Z2;have:0<p.unserved.countP fun v=>decide (v=(u.toNat:Int)):=List.countP_pos_iff.2 ⟨u,hu,by grind⟩;omega
       have h4:VH x p=false:=by grind
       have h5:Q1 x p=false:=by grind
       have h4:=List.any_eq_false.1 h4 _ (List.mem_range.2 hui);have h5:=List.any_eq_false.1 h5 _ (List.mem_range.2 hui)
       simp_all [Wg,if_neg]
theorem Ln (x:Inst) (p:Pln) (hx:InstOk x) (hr:p.routes.length<=1048576) (hu:p.unserved.length<=1048576) (hb: ∀r∈p.routes,Vf r) :
  PT 70 [.p (Xt x),.p (Ws p)] [.p (Q6 (Qi x p)),.p (.int .i64 (XP x p))]:=by
 have hn:=O4 hx;refine Zg [] Tryz.func70 rfl mH ?_;simp (disch:=omega) only [Tryz.f70,go_sem,seval];refine (Lj x p hx hr hu hb).use ?_;simp (disch:=omega) only [go_sem,seval];refine cD ?_ ?_<;>intro h0<;>simp (disch:=omega) only [Sh.out h0,go_sem,seval]
 ·have e:Qi x p=zSco:=by rw [Qi,if_neg h0]
  rw [e];exact we (by simp (disch:=omega) only [zSco,go_sem,seval])
 ·have h0':XP x p=0:=Za
  obtain ⟨z1,z2⟩:=KV h0';have r1:=Ks (l:=p.routes) hx hb z1;refine Zj [2,3,4,7,25,26] (fun k:Nat=> [(27,.p (.int .i64 k))]) (fun k=> [Zk x,Zw p,UE 0 0 0 0,Xj (Qo x (p.routes.take k))]) (fun k=>k<=p.routes.length) (fun k=>p.routes.length-k) 0 Zb (Weak.mk ?_) ?_
  ·simp (disch:=omega) only [Zk,Zw,UE,Xj,Qo,zSco,List.take_zero,List.foldl_nil,go_sem,seval]
  ·intro k hk;simp (disch:=omega) only [Zk,Zw,UE,Xj,go_sem,seval];refine cD ?_ ?_<;>intro h1<;>simp (disch:=omega) only [Sh.out h1,go_sem,seval]
   ·have hk2:k<p.routes.length:=Za
    have hm:=Zu hk2;obtain ⟨b1,b2⟩:=hb _ hm;have ce:=JG x (nth p.routes k) hx b1 b2;unfold K1 at ce;refine FJ ce ?_;rw [z1 _ hm];simp (disch:=omega) only [go_sem,seval];have q1:=r1 k Za;have q2:=K0 hx b1 (z1 _ hm);have hsu:=Ay (x:=x) hk2;refine (Fw (Qo x (p.routes.take k)) (Uf x (nth p.routes k)) (Ym Za q1) (Ym Za q2)).use ?_;simp (disch:=omega) only [go_sem,seval];exact ⟨k+1,Za,Za,Weak.mk (by simp (disch:=omega) only [Zk,Zw,UE,Xj,hsu,go_sem,seval])⟩
   ·have hkl:k=p.routes.length:=Za
    subst hkl;have rr:=r1 _ (Nat.le_refl _)
    rw [List.take_length] at *
    have r2:=Ku (l:=p.unserved) hx rr
    have ee:Qi x p=Kt x (Qo x p.routes) p.unserved:=by rw [Qi,if_pos h0']
    rw [ee];refine Zj [2,4,7,47,48] (fun k:Nat=> [(49,.p (.int .i64 k))]) (fun k=> [Zk x,Zw p,UE 0 0 0 0,Xj (Kt x (Qo x p.routes) (p.unserved.take k))]) (fun k=>k<=p.unserved.length) (fun k=>p.unserved.length-k) 0 Zb (Weak.mk ?_) ?_
    ·simp (disch:=omega) only [Zk,Zw,UE,Xj,Kt,List.take_zero,List.foldl_nil,go_sem,seval]
    ·intro k hk;simp (disch:=omega) only [Zk,Zw,UE,Xj,go_sem,seval];refine cD ?_ ?_<;>intro h2<;>simp (disch:=omega) only [Sh.out h2,go_sem,seval]
     ·have hk2:k<p.unserved.length:=Za
      have hm:=Zu hk2;have ce:=CD x (nth p.unserved k) Za;refine W4 ce ?_;rw [z2 _ hm];simp (disch:=omega) only [go_sem,seval];have q1:=r2 k Za;have q2:=C6 hx (nth p.unserved k);have hsu:=Az (x:=x) (s:=Qo x p.routes) hk2;refine (Fw (Kt x (Qo x p.routes) (p.unserved.take k)) (Wg x (nth p.unserved k)).1 (Ym Za q1) (Ym Za q2)).use ?_;simp (disch:=omega) only [go_sem,seval];exact ⟨k+1,Za,Za,Weak.mk (by simp (disch:=omega) only [Zk,Zw,UE,Xj,hsu,go_sem,seval])⟩
     ·have hkl:k=p.unserved.length:=Za
      subst hkl;rw [List.take_length];exact we (by simp (disch:=omega) only [h0',go_sem,seval])
theorem LY {x:Inst} {p:Pln} (hx:InstOk x) (hr:p.routes.length<=1048576) (hu:p.unserved.length<=1048576) (hb: ∀r∈p.routes,Vf r):Y7 1152921504606846976 (Qi x p):=by
 unfold Qi
 split
 ·rename_i h;obtain ⟨z1,z2⟩:=KV h;have r1:=Ks (l:=p.routes) hx hb z1 _ (Nat.le_refl _);have r2:=Ku (l:=p.unserved) hx r1 _ (Nat.le_refl _);rw [List.take_length,List.take_length] at r2;exact Ym Za r2
 ·simp [Y7,zSco]
def V6 (x:Inst) (p:Pln):Int×Int:=if XP x p=0 then Uc (Qi x p) else (0,XP x p)
theorem CC (x:Inst) (p:Pln) (hx:InstOk x) (hr:p.routes.length<=1048576) (hu:p.unserved.length<=1048576) (hb: ∀r∈p.routes,Vf r) :
  PT 26 [.p (Xt x),.p (Ws p)] [.p (.int .i64 (V6 x p).1),.p (.int .i64 (V6 x p).2)]:=by
 refine Zg [] Tryz.func26 rfl lB ?_;simp (disch:=omega) only [Tryz.f26,go_sem,seval];refine W4 (Ln x p hx hr hu hb) ?_;simp (disch:=omega) only [go_sem,seval];refine cD ?_ ?_<;>intro h0<;>simp (disch:=omega) only [Sh.out h0,go_sem,seval]
 ·have e:V6 x p=(0,XP x p):=by rw [V6,if_neg h0]
  rw [e];exact we
 ·have h0':XP x p=0:=Za
  have e:V6 x p=Uc (Qi x p):=by rw [V6,if_pos h0']
  rw [e];refine W4 (GL (Qi x p) (LY hx hr hu hb)) ?_;simp (disch:=omega) only [go_sem,seval];exact we
theorem HP {x:Inst} {p:Pln} (h:XP x p=0):V3 x p.routes=0/\Vh x p.unserved=true/\UH x p=false/\Vm x p=false/\VH x p=false/\Q1 x p=false:=by
 unfold XP at h
 by_cases c0:V3 x p.routes=0
 ·grind
 omega
theorem KG (l:List Int) (c:Bool) (hl:l.length<=1048576):ACalls Tryz.prog 53 [.p (.list c (l.map eI))] [] fun y H'=>y= .sl 0 0 l.length l.length/\H'= [.elems 1 (l.map eI)]:=by
 refine Zg [1] Tryz.func53 rfl lQ ?_;simp (disch:=omega) only [Tryz.f53,go_sem,seval];refine Z0 (BU (e:=3) (cl:=c) (xs:=l.map eI) Tryz.underlying29 (by rfl) Zb fun b hb=> ?_);refine Zd [] _ _ _ _ ?_;simp (disch:=omega) only [go_sem,seval];refine cD ?_ ?_<;>intro h<;>simp (disch:=omega) only [Sh.out h,go_sem,seval]
 ·have:l= []:=by simpa using hb h
  subst this;exact ⟨_,_,Weak.nil 0 1 rfl Zb,rfl,rfl⟩
 ·refine Zd [] _ _ _ _ ?_;simp (disch:=omega) only [go_sem,seval];exact we
theorem KH (l:List Rte) (c:Bool) (hl:l.length<=1048576):ACalls Tryz.prog 52 [.p (.list c (l.map eRte))] [] fun y H'=>y= .sl 0 0 l.length l.length/\H'= [.elems 4 (l.map eRte)]:=by
 refine Zg [1] Tryz.func52 rfl lP ?_;simp (disch:=omega) only [Tryz.f52,go_sem,seval];refine Z0 (BU (e:=94) (cl:=c) (xs:=l.map eRte) Tryz.underlying44 (by rfl) Zb fun b hb=> ?_);refine Zd [] _ _ _ _ ?_;simp (disch:=omega) only [go_sem,seval];refine cD ?_ ?_<;>intro h<;>simp (disch:=omega) only [Sh.out h,go_sem,seval]
 ·have:l= []:=by simpa using hb h
  subst this;exact ⟨_,_,Weak.nil 0 4 rfl Zb,rfl,rfl⟩
 ·refine Zd [] _ _ _ _ ?_;simp (disch:=omega) only [go_sem,seval];exact we
theorem M8 (p:Pln) (hp:p.wf 1048576):ACalls Tryz.prog 15 [.p (Ws p)] [] fun y H'=> ∃b:Bool,(b=true->p.routes.length<=12)/\y= .p (.bool b)/\H'= []:=by
 have hr:=hp.1;have hv:=Fz hp;have hu:=hp.2.2.1;refine ACalls.pureE (Xb Tryz.func15 rfl kS (Zd [] _ _ _ _ ?_));simp (disch:=omega) only [Tryz.f15,go_sem,seval];refine gF ?_ ?_<;>intro h1<;>simp (disch:=omega) only [Sh.out h1,go_sem,seval]
 ·exact ⟨false,Zb,rfl⟩
 ·refine cD ?_ ?_<;>intro h2<;>simp (disch:=omega) only [Sh.out h2,go_sem,seval]
  ·exact ⟨false,Zb,rfl⟩
  ·refine Zj [1] (fun k:Nat=> [(3,.p (.int .i64 k))]) (fun _=> [Zw p]) (fun k=>k<=p.routes.length) (fun k=>p.routes.length-k) 0 Zb (Weak.mk ?_) ?_
   ·simp (disch:=omega) only [Zw,go_sem,seval]
   ·intro k hk;simp (disch:=omega) only [Zw,go_sem,seval];refine cD ?_ ?_<;>intro h3<;>simp (disch:=omega) only [Sh.out h3,go_sem,seval]
    ·have hk2:k<p.routes.length:=Za
     obtain ⟨w1,w2⟩:=hv _ (Zu hk2);refine gF ?_ ?_<;>intro h4<;>simp (disch:=omega) only [Sh.out h4,go_sem,seval]
     ·exact ⟨false,Zb,rfl⟩
     ·refine cD ?_ ?_<;>intro h5<;>simp (disch:=omega) only [Sh.out h5,go_sem,seval]
      ·exact ⟨false,Zb,rfl⟩
      ·exact ⟨k+1,Za,Za,Weak.mk (by simp (disch:=omega) only [Zw,go_sem,seval])⟩
    ·exact ⟨true,fun _=>Za,rfl⟩
def OQ : Typ:= { name:= [118],count:=1,src:=0,dst:=0,cap_c:=false,cap:= [5],cls:=9,drive:=9,opn:=0,rest:=0,skills:=0,fixed:=0,perMile:=0,perTick:=0,prof:=0 }
def bareI : Inst:= { net:= { places_c:=false,places:= [[97]],arcs_c:=true,arcs:= [] },types_c:=false,types:= [OQ],orders_c:=true,orders:= [],apart_c:=true,apart:= [],before_c:=true,before:= [] }
def aD : Pln:=⟨true,[],true,[]⟩
theorem P1 : InstOk bareI:=by
 refine ⟨?_,?_,⟨by simp [bareI],fun i hi=>by simp [bareI] at hi⟩,?_⟩
 ·refine ⟨⟨?_,by simp [bareI]⟩,fun i hi=>by simp [bareI] at hi⟩;refine ⟨by simp [bareI],fun i hi=> ?_⟩
  have:i=0:=by simp [bareI] at hi;omega
  subst this;exact ⟨rfl,fun k hk=>Za⟩
 ·refine ⟨rfl,fun i hi=> ?_⟩
  have:i=0:=by simp [bareI] at hi;omega
  subst this;exact ⟨⟨⟨⟨⟨⟨⟨⟨rfl,fun j hj=>Za⟩,rfl⟩,rfl,rfl⟩,rfl⟩,rfl⟩,rfl,by decide⟩,rfl,rfl⟩,rfl,rfl,rfl,rfl⟩
 ·rfl
theorem P2 : PC 39 [] (Xt bareI):=by
 refine Zg [1] Tryz.func39 rfl lG ?_;simp (disch:=omega) only [Tryz.f39,go_sem,seval];refine Z0 (BT 1 2 ?_);simp (disch:=omega) only [go_sem,seval];refine ⟨_,_,Weak.fz (o:=1) (by rfl),?_⟩;simp (disch:=omega) only [List.map_cons,List.map_nil,List.set_cons_succ,List.set_cons_zero,List.cons_append,List.nil_append,go_sem,seval];refine ⟨_,_,Weak.fz (o:=2) (by rfl),?_⟩;simp (disch:=omega) only [List.map_cons,List.map_nil,List.set_cons_succ,List.set_cons_zero,List.cons_append,List.nil_append,go_sem,seval];refine Zr (Weak.fz (o:=3) (by rfl)) ?_
 refine Zd [] _ _ _ _ ?_;simp (disch:=omega) only [List.map_cons,List.map_nil,List.set_cons_succ,List.set_cons_zero,go_sem,seval];exact we (by simp (disch:=omega) only [bareI,OQ,List.map_cons,List.map_nil,go_sem,seval])
theorem HO : XP bareI aD=0:=rfl
end Go.Proofs.YtmbelkfkhclnkaaGreatDoor.K
