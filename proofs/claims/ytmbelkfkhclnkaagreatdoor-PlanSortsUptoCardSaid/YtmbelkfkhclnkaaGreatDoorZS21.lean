/- Declarations that the closing texts need, part 21: joined by tools/slim.py. -/
import Derived.Test.YtmbelkfkhclnkaaGreatDoorZS20
import Derived.Shelf.Slices.In.SortNone
import Derived.Shelf.Sort.Plain
set_option linter.unusedVariables false
set_option linter.unusedSimpArgs false
namespace Go.AM
open Go.RowKit Go.Shelf Go.Lib Go.Sort Go.Proofs
theorem ACalls.sortInts {P:Program} {ρ:Ren} (L:Lays.n189 P ρ) (hg:Zh P (ρ.f 189)) (l:List Int) (hlen:l.length<4611686018427387904) {H:List AM.Obj} {o:Nat} (hHo:H[o]? =some (.elems 1 (l.map (PV.int .i64)))) :
  ACalls P (ρ.f 189) [.sl o 0 l.length l.length] H fun y H'=>y= .tup []/\H'=H.set o (.elems 1 ((l.mergeSort fun x y=>decide (x<=y)).map (PV.int .i64))):=by
 refine ⟨hg,fun F ι w vs hr hv=> ?_⟩;obtain ⟨hv1,hv2⟩:=hv;have h0:=hv2 0 _ rfl
 have hvs:vs= #[vs.getD 0 undef]:=by
  apply Array.ext
  ·omega
  simp_all
 rw [hvs];generalize vs.getD 0 undef=v0 at h0 ⊢;clear hvs hv1 hv2;have hol:=(List.getElem?_eq_some_iff.1 hHo).1;generalize hL:l.length=n at h0 hlen
 by_cases hn:n=0
 ·subst hn;have hl0:l= []:=List.length_eq_zero_iff.1 hL;subst hl0
  have e1:H.set o (.elems 1 ((([]:List Int).mergeSort fun x y=>decide (x<=y)).map (PV.int .i64)))=H:=by
   apply List.ext_getElem?
   simp_all [List.getElem?_set]
  obtain ⟨ad,cap,rfl⟩: ∃ad cap,v0= .slice ad 0 cap:=by
   cases h0 with
   | slNil=>simp
   | sl=>simp
   | slD _ _ _ _ _ hd=>grind
   | slS _ _ _ _ _ S2 xs2 hd hne=>grind
   | slC _ _ _ _ _ _ hd=>simp
  refine (Any.slices_Sort_int_none L ad cap w).mono ?_;rintro e w' ⟨rfl,rfl⟩;exact ⟨.tup [],_,ι,_,rfl,⟨rfl,e1.symm⟩,Good.refl hr,.tup [] #[] Zb Zb⟩
 cases h0 with
 | slNil=>omega
 | slD _ _ _ _ _ hd=>grind
 | slS _ _ _ _ _ S ys hd hlt=>grind
 | slC _ _ _ _ _ _ hd=>grind
 | sl _ _ _ _ b S cap t ys c hι hH ht2 hw hcap hl hle hm =>
 rw [hHo] at hH;simp at hH;obtain ⟨rfl,rfl⟩:=hH;rcases hr.elm o 1 (l.map (PV.int .i64)) hHo with ⟨e1,_⟩ | ⟨b2,c2,t2,cap2,e1,e2,e3,e4,e5,e6,e7⟩
 ·grind
 rw [hι] at e1;simp at e1;subst e1;rw [hw] at e2;simp at e2;obtain ⟨rfl,rfl⟩:=e2;have hbs:b<w.heap.size:=(hr.avo o b hι).2;simp only [List.length_map,Nat.mul_one] at e3 e4 hcap
 have cell: ∀i (hi:i<n),c.getD i undef= .int .i64 (l[i]'(Za)):=fun i hi=>by
  have:=e7 i (.int .i64 (l[i]'(Za))) 0 (.int .i64 (l[i]'(Za))) (by simp [hL,hi]) (by rfl);simp only [Nat.mul_one,Nat.add_zero] at this;exact this.int_inv
 have hHolds:Holds (Value.int .i64) w b (0*1) l.toArray:=fun j hj=>by
  have hj2:j<n:=by grind
  have hjc:j<c.size:=Za
  refine ⟨?_,by simp [World.frozen?,hw]⟩;have e9:=cell j hj2;simp only [Array.getD_eq_getD_getElem?,hjc,getElem?_pos,Option.getD_some] at e9
  grind [World.cell?]
 have main:=Any.slices_Sort_int L b (0*1) cap l w hHolds hbs Za;rw [hL] at main;refine main.mono ?_;rintro e' w' ⟨rfl,m,os,rfl⟩;generalize hS:(l.mergeSort fun x y=>decide (x<=y))=s
 have hsl:s.length=n:=by rw [<- hS,(List.mergeSort_perm l _).length_eq,hL]
 have hat:(grow (putRow (Value.int .i64) (Sort.ahead w m) b (0*1) s.toArray) os).heap[b]? =some (.cells (putCells (Value.int .i64) 0 s.toArray c) t (0,0)):=by
  simp only [grow,putRow,mapBlock,Sort.ahead];rw [Array.getElem?_append_left (by grind),Array.getElem?_modify,if_pos rfl,hw]
  rfl
 have hother: ∀k,k<w.heap.size->k≠b->(grow (putRow (Value.int .i64) (Sort.ahead w m) b (0*1) s.toArray) os).heap[k]? =w.heap[k]? :=fun k hk hne=>by
  simp only [grow,putRow,mapBlock,Sort.ahead]
  grind
 have hcs:(putCells (Value.int .i64) 0 s.toArray c).size=c.size:=by simp [putCells]
 have g:=Xg (xs':=s.map (PV.int .i64)) (w':=grow (putRow (Value.int .i64) (Sort.ahead w m) b (0*1) s.toArray) os) (cap:=cap2) hr hHo rfl (Tp.of rfl (by simp [grow])) rfl
  (fun c0 t0 hc0=>by grind) Zb hat hother
  (.inl ⟨hι,.inl ⟨by grind,fun c0 t0 hc0=>by grind⟩⟩)
  Za (by simp;omega) e5 (fun i x hi=>by
   rw [List.getElem?_map] at hi;obtain ⟨y,_,rfl⟩:=Option.map_eq_some_iff.1 hi
   rfl) (fun i x j y hi hj=>by
   rw [List.getElem?_map] at hi;obtain ⟨q,hq,rfl⟩:=Option.map_eq_some_iff.1 hi
   have hj0:j=0:=by have:=(List.getElem?_eq_some_iff.1 hj).1;grind [PV.cells]
   subst hj0;simp [PV.cells] at hj;subst hj;have hil:=(List.getElem?_eq_some_iff.1 hq).1
   have hic:i<c.size:=Za
   have e9:(putCells (Value.int .i64) 0 s.toArray c).getD (i*1+0) undef= .int .i64 q:=by
    have hg:=(List.getElem?_eq_some_iff.1 hq).2;simp [putCells,Array.getD_eq_getD_getElem?,hic,hil,hg]
   rw [e9]
   exact .int _ _)
 have eι:ι.set o (some b)=ι:=by
  apply List.ext_getElem?
  grind
 exact ⟨.tup [],_,_,_,rfl,⟨rfl,rfl⟩,g,.tup [] #[] Zb Zb⟩
end Go.AM
namespace Go.Proofs.YtmbelkfkhclnkaaGreatDoor.K
open Go Go.AM Go.Proofs
set_option maxRecDepth 8000
set_option maxHeartbeats 8000000
def Kn (l:List Int):List Int:=l.mergeSort fun x y=>decide (x<=y)
theorem VZ (l:List Int):(Kn l).Perm l:=List.mergeSort_perm l _
theorem Ko (l:List Int):(Kn l).Pairwise (· <= ·) :=
 (List.pairwise_mergeSort (le:=fun x y:Int=>decide (x<=y)) (fun a b c h1 h2=>by grind) (fun a b=>by simp;omega) l).imp fun h=>by simpa using h
theorem L0 {H:List AM.Obj} {o:Nat} (l:List Int) (hl:l.length<=1048576) (hH:H[o]? =some (.elems 1 (l.map eI))) :
  ACalls Tryz.prog 59 [.sl o 0 l.length l.length] H fun y H'=>y= .tup []/\H'=H.set o (.elems 1 ((Kn l).map eI)) :=
 ACalls.sortInts Nw lW l Za hH
theorem CR (s a b:Sco):XN (XN s a) b=XN (XN s b) a:=by
 unfold XN;simp only [Sco.mk.injEq];omega
theorem K6 {α:Type} {f:α->Sco} {l m:List α} (h:l.Perm m) (s:Sco):l.foldl (fun s a=>XN s (f a)) s=m.foldl (fun s a=>XN s (f a)) s:=by
 induction h generalizing s with
 | nil=>rfl
 | cons a _ ih=>rw [List.foldl_cons,List.foldl_cons,ih]
 | swap a b l=>rw [List.foldl_cons,List.foldl_cons,List.foldl_cons,List.foldl_cons,CR]
 | trans _ _ h1 h2=>rw [h1,h2]
theorem B1 {x:Inst} {p q:Pln} (h1:p.routes.Perm q.routes) (h2:p.unserved.Perm q.unserved) (hk:XP x p=0):XP x q=0:=by
 obtain ⟨o1,o2,o3,o4,o5,o6⟩:=HP hk
 have eR: ∀i,ZA q.routes i=ZA p.routes i:=fun i=>by unfold ZA;rw [h1.countP_eq]
 have eU: ∀i,Z2 q.unserved i=Z2 p.unserved i:=fun i=>by unfold Z2;rw [h2.countP_eq]
 have eT: ∀i,XQ q.routes i=XQ p.routes i:=fun i=>by unfold XQ;rw [h1.countP_eq]
 have eO: ∀i,I8 q i=I8 p i:=fun i=>by unfold I8;rw [eR,eU]
 have k1:V3 x q.routes=0:=JF.2 fun r hr=>JF.1 o1 r (h1.mem_iff.2 hr)
 have k2:Vh x q.unserved=true:=by
  unfold Vh at o2 ⊢;rw [List.all_eq_true] at o2 ⊢;exact fun u hu=>o2 u (h2.mem_iff.2 hu)
 have k3:UH x q=false:=by unfold UH at o3 ⊢;simp only [eO];exact o3
 have k4:Vm x q=false:=by unfold Vm at o4 ⊢;simp only [eT];exact o4
 have k5:VH x q=false:=by unfold VH at o5 ⊢;simp only [eU];exact o5
 have k6:Q1 x q=false:=by unfold Q1 at o6 ⊢;simp only [eO,eU];exact o6
 simp [XP,k1,k2,k3,k4,k5,k6]
theorem Lz {x:Inst} {p q:Pln} (h1:p.routes.Perm q.routes) (h2:p.unserved.Perm q.unserved):(V6 x p).1=(V6 x q).1/\((V6 x p).2=0↔(V6 x q).2=0):=by
 by_cases hp:XP x p=0
 ·have hq:=B1 h1 h2 hp
  have e:Qi x p=Qi x q:=by
   rw [Qi,if_pos hp,Qi,if_pos hq];unfold Kt Qo;rw [K6 (f:=Uf x) h1,K6 (f:=fun i=>(Wg x i).1) h2]
  rw [V6,if_pos hp,V6,if_pos hq,e];exact ⟨rfl,Iff.rfl⟩
 ·have hq: ¬XP x q=0:=fun g=>hp (B1 h1.symm h2.symm g);rw [V6,if_neg hp,V6,if_neg hq];exact ⟨rfl,⟨fun h=>absurd h hp,fun h=>absurd h hq⟩⟩
theorem EY {α:Type} [Inhabited α] {lt:α->α->Bool} {r:List α} : ∀(j:Nat) (m:List α),j<m.length->UR lt j (m++r)=UR lt j m++r
 | 0,m,_=>by rw [UR,UR]
 | j+1,m,h=>by
  have e1:nth (m++r) (j+1)=nth m (j+1):=by unfold nth;simp [List.getD_eq_getElem?_getD,List.getElem?_append_left h]
  have e2:nth (m++r) j=nth m j:=by unfold nth;simp [List.getD_eq_getElem?_getD,List.getElem?_append_left (show j<m.length by omega)]
  rw [UR,UR,e1,e2]
  split
  ·have e3:Vg (m++r) (j+1)=Vg m (j+1)++r:=by
    unfold Vg;rw [e1,show j+1-1=j from rfl,e2,List.set_append_left _ _ h,List.set_append_left _ _ (by simp;omega)]
   rw [e3];exact EY j _ (by rw [Yd];omega)
  ·rfl
theorem QN {α:Type} [Inhabited α] {lt:α->α->Bool} {l:List α} : ∀i,i<=l.length->Xl lt i l=Xl lt i (l.take i)++l.drop i
 | 0,_=>by simp [Xl]
 | i+1,h=>by
  have ih:=QN (lt:=lt) (l:=l) i Za
  have hl:(l.take (i+1)).length=i+1:=by rw [List.length_take];omega
  have ih2:=QN (lt:=lt) (l:=l.take (i+1)) i Za
  have e1:(l.take (i+1)).take i=l.take i:=by rw [List.take_take];congr 1;omega
  have e2:l.drop i=(l.take (i+1)).drop i++l.drop (i+1):=by
   rw [List.drop_take,show i+1-i=1 by omega,List.drop_eq_getElem_cons (show i<l.length by omega)]
   rfl
  rw [Xl,ih,Xl,ih2,e1,e2,<- List.append_assoc]
  rw [EY i _ (by
   rw [List.length_append,Yu (by rw [List.length_take];omega),List.length_take,List.length_drop,hl];omega)]
theorem Av {α:Type} [Inhabited α] {lt:α->α->Bool} {l:List α} {i:Nat} (h:i<l.length):Xl lt (i+1) (l.take (i+1))=UR lt i (Xl lt i (l.take i)++ [nth l i]):=by
 have hl:(l.take (i+1)).length=i+1:=by rw [List.length_take];omega
 have ih2:=QN (lt:=lt) (l:=l.take (i+1)) i Za
 have e1:(l.take (i+1)).take i=l.take i:=by rw [List.take_take];congr 1;omega
 have e2:(l.take (i+1)).drop i= [nth l i]:=by
  rw [List.drop_take,show i+1-i=1 by omega,List.drop_eq_getElem_cons h,Zi h]
  rfl
 rw [Xl,ih2,e1,e2]
theorem Tz : LtOk fun a b:Int=>decide (a<b):=⟨fun a b h=>by simp at h ⊢;omega,fun a b c h1 h2=>by simp at h1 h2 ⊢;omega⟩
theorem Ob (l:List Int):Xl (fun a b:Int=>decide (a<b)) l.length l=Kn l:=by
 refine List.Perm.eq_of_pairwise (le:=fun a b=>a<=b) (fun a b _ _ h1 h2=>Int.le_antisymm h1 h2) ?_ (Ko l) ((YX _ (Nat.le_refl _)).trans (VZ l).symm);rw [List.pairwise_iff_getElem];intro i j hi hj hij;have hl:=Yu (lt:=fun a b:Int=>decide (a<b)) (l:=l) (Nat.le_refl _);have:=Km Tz l.length (Nat.le_refl _) i j hij Za;rw [Zi hi,Zi hj] at this;simp at this;exact this
theorem L5 (l:List Rte):Xl altR (Xl altR l.length l).length (Xl altR l.length l)=Xl altR l.length l:=by
 have hl:=Yu (lt:=altR) (l:=l) (Nat.le_refl _);exact FD (fun a b h1 h2=>Km Mv l.length (Nat.le_refl _) a b h1 Za) _ (Nat.le_refl _)
theorem L4 (l:List Int):Kn (Kn l)=Kn l:=by
 refine List.Perm.eq_of_pairwise (le:=fun a b=>a<=b) (fun a b _ _ h1 h2=>Int.le_antisymm h1 h2) (Ko _) (Ko l) (VZ _)
set_option maxRecDepth 60000
def V9 (p:Pln):Pln:=⟨false,Xl altR p.routes.length p.routes,false,Kn p.unserved⟩
theorem Fx (p:Pln) (hl:p.routes.length<=19) (hu:p.unserved.length<=1048576) (hv: ∀r∈p.routes,r.visits.length<=1048576) :
  PC 22 [.p (Ws p)] (Ws (V9 p)):=by
 have c1:=KH p.routes p.routes_c Za;have c2:=KG p.unserved p.unserved_c hu;refine Zg [4] Tryz.func22 rfl kX ?_;simp (disch:=omega) only [Tryz.f22,go_sem,seval];refine Y1 [2,5] 7 mixed Ze Ze Ze Zb ?_;simp (disch:=omega) only [go_sem,seval];refine Z8 2 (.sl 2 0 p.routes.length p.routes.length) [.elems 4 (p.routes.map eRte)] Ze (by simp (disch:=omega) only [go_sem,seval];exact c1.useF ⟨rfl,rfl⟩) ?_;refine Z8 5 (.sl 3 0 p.unserved.length p.unserved.length) [.elems 4 (p.routes.map eRte),.elems 1 (p.unserved.map eI)] Ze (by simp (disch:=omega) only [go_sem,seval];exact c2.useF ⟨rfl,rfl⟩) (YM ?_)
 simp (disch:=omega) only [go_sem,seval];refine ((KN p.unserved p.routes hl hv).back [.cells [.sl 2 0 p.routes.length p.routes.length,.sl 3 0 p.unserved.length p.unserved.length],.cells [.p (.list true []),.p (.list true [])]] (by rfl)).mono ?_;rintro y H' ⟨z,H1,⟨rfl,rfl⟩,rfl,rfl⟩;have hl2:=Yu (lt:=altR) (l:=p.routes) (i:=p.routes.length) (Nat.le_refl _)
 generalize hR:Xl altR p.routes.length p.routes=R at *
 simp (disch:=omega) only [Z5,Vb,Wf,WA,go_sem,seval];refine (L0 p.unserved hu (by rfl)).mono ?_;rintro y H' ⟨rfl,rfl⟩;have hl3:=(VZ p.unserved).length_eq
 generalize hU:Kn p.unserved=U at *
 simp (disch:=omega) only [List.set_cons_succ,List.set_cons_zero,go_sem,seval];refine Zr (Weak.fz (o:=2) (by rfl)) ?_;refine Zd [4] _ _ _ _ ?_;simp (disch:=omega) only [List.map_cons,List.map_nil,List.set_cons_succ,List.set_cons_zero,List.length_map,hl2,eq_self,if_true,go_sem,seval];refine Zr (Weak.fz (o:=3) (by rfl)) ?_;refine Zd [] _ _ _ _ ?_;simp (disch:=omega) only [List.map_cons,List.map_nil,List.set_cons_succ,List.set_cons_zero,List.length_map,hl3,eq_self,if_true,go_sem,seval];subst hR;subst hU;rw [show V9 p=⟨false,Xl altR p.routes.length p.routes,false,Kn p.unserved⟩ from rfl]
 exact we
def Kj (v w:V):AM.Obj:= .cells [v,w]
theorem Ad (r:Rte) (hl:r.visits.length<=1048576):PC 103 [.p (eRte r)] (.int .i64 (Wu r.visits)):=by
 refine Zc Tryz.func103 rfl RJ ?_;simp (disch:=omega) only [Tryz.f103,go_sem,seval];refine cD ?_ ?_<;>intro h<;>simp (disch:=omega) only [Sh.out h,go_sem,seval]
 ·have:r.visits= []:=List.length_eq_zero_iff.1 Za;rw [this];rfl
 ·have h1:Wu (r.visits.take 1)=(nth r.visits 0).order:=by
   cases hv:r.visits with
   | nil=>rw [hv] at h;simp at h
   | cons v m=>rfl
  refine Zj [1] (fun k:Nat=> [(3,.p (.int .i64 (Wu (r.visits.take (k+1))))),(4,.p (.int .i64 (k+1)))]) (fun _=> [ZN r]) (fun k=>k+1<=r.visits.length) (fun k=>r.visits.length-k) 0 Za (Weak.mk ?_) ?_
  ·simp (disch:=omega) only [ZN,h1,go_sem,seval]
  ·intro k hk;simp (disch:=omega) only [ZN,go_sem,seval];refine cD ?_ ?_<;>intro h2<;>simp (disch:=omega) only [Sh.out h2,go_sem,seval]
   ·have hk2:k+1<r.visits.length:=Za
    have ht:=Co (l:=r.visits) (k:=k+1) Za hk2;refine cD ?_ ?_<;>intro h3<;>simp (disch:=omega) only [Sh.out h3,go_sem,seval]
    ·rw [if_pos h3] at ht;exact ⟨k+1,Za,Za,Weak.mk (by simp (disch:=omega) only [ZN,ht,go_sem,seval])⟩
    ·rw [if_neg h3] at ht;exact ⟨k+1,Za,Za,Weak.mk (by simp (disch:=omega) only [ZN,ht,go_sem,seval])⟩
   ·have hkl:k+1=r.visits.length:=Za
    rw [hkl,List.take_length]
theorem FV (a b:Rte) (ha:a.visits.length<=1048576) (hb:b.visits.length<=1048576):PC 60 [.p (eRte a),.p (eRte b)] (.bool (altR a b)):=by
 refine Zc Tryz.func60 rfl lX ?_;simp (disch:=omega) only [Tryz.f60,go_sem,seval]
 by_cases h1:a.typ<b.typ
 ·refine Xs ?_;simp (disch:=omega) only [h1,go_sem,seval];simp [altR,h1]
 ·by_cases h2:a.typ=b.typ
  ·refine Xs ?_;simp (disch:=omega) only [h1,show (a.typ=b.typ)=True from eq_true h2,decide_false,decide_true,go_sem,seval];refine Zn (Ad a ha) ?_;simp (disch:=omega) only [go_sem,seval];refine Zn (Ad b hb) ?_;simp (disch:=omega) only [go_sem,seval];simp [altR,h2]
  ·refine Xs ?_;simp (disch:=omega) only [h1,h2,go_sem,seval];simp [altR,h1,h2]
theorem N4 (p:Pln) (hl:p.routes.length<=1048576) (hu:p.unserved.length<=1048576) (hv: ∀r∈p.routes,r.visits.length<=1048576) :
  PC 23 [.p (Ws p)] (Ws (V9 p)):=by
 obtain ⟨R,hR⟩: ∃R:Nat->List Rte,R=fun i=>Xl altR i (p.routes.take i):=⟨_,rfl⟩
 have hRl: ∀i,i<=p.routes.length->(R i).length=i:=fun i hi=>by
  rw [hR];simp only;rw [Yu (by rw [List.length_take];omega),List.length_take];omega
 have hRs: ∀i,i<p.routes.length->R (i+1)=UR altR i (R i++ [nth p.routes i]):=fun i hi=>by rw [hR];exact Av hi
 have hRm: ∀i,i<=p.routes.length-> ∀r∈R i,r∈p.routes:=fun i hi r hr=>by
  rw [hR] at hr;exact List.take_subset _ _ ((YX i (by rw [List.length_take];omega)).mem_iff.1 hr)
 have hR0:R 0= []:=by rw [hR];rfl
 have hRe:R p.routes.length=Xl altR p.routes.length p.routes:=by rw [hR];simp only;rw [List.take_length]
 obtain ⟨U,hU⟩: ∃U:Nat->List Int,U=fun i=>Xl (fun a b:Int=>decide (a<b)) i (p.unserved.take i):=⟨_,rfl⟩
 have hUl: ∀i,i<=p.unserved.length->(U i).length=i:=fun i hi=>by
  rw [hU];simp only;rw [Yu (by rw [List.length_take];omega),List.length_take];omega
 have hUs: ∀i,i<p.unserved.length->U (i+1)=UR (fun a b:Int=>decide (a<b)) i (U i++ [nth p.unserved i]):=fun i hi=>by rw [hU];exact Av hi
 have hU0:U 0= []:=by rw [hU];rfl
 have hUe:U p.unserved.length=Kn p.unserved:=by rw [hU];simp only;rw [List.take_length];exact Ob _
 have hres:V9 p=⟨false,R p.routes.length,false,U p.unserved.length⟩:=by rw [hRe,hUe];rfl
 rw [hres];clear hR hU hres hRe hUe;refine Zg [22] Tryz.func23 rfl kY ?_;simp (disch:=omega) only [Tryz.f23,go_sem,seval];refine Zj [1,2,3] (fun i:Nat=> [(4,.p (.int .i64 i))]) (fun i=> [Zw p,Kj (.p (.list true [])) (.p (.list true [])),Kj (.sl 3 0 (R i).length (R i).length) (.p (.list true [])),.elems 4 ((R i).map eRte)]) (fun i=>i<=p.routes.length) (fun i=>p.routes.length-i) 0 Za ((Weak.nilC (o:=2) (j:=0) 4 (by rfl) (by rfl) Zb).trans (Weak.mk ?_)) ?_
 ·simp (disch:=omega) only [Zw,Kj,hR0,List.map_nil,List.length_nil,List.set_cons_succ,List.set_cons_zero,go_sem,seval]
 ·intro i hi;have hil:=hRl i hi;simp (disch:=omega) only [Zw,Kj,go_sem,seval];refine cD ?_ ?_<;>intro h1<;>simp (disch:=omega) only [Sh.out h1,go_sem,seval]
  ·have hi2:i<p.routes.length:=Za
   have hsu:=hRs i hi2;have hm1:=hRm i hi;have hm2:nth p.routes i∈p.routes:=ZQ hi2;refine Zv 8 mixed Ze Ze ?_;simp (disch:=omega) only [go_sem,seval]
   try simp (disch:=omega) only [List.set_cons_succ,List.set_cons_zero,go_sem,seval]
   refine Zj [1,2,3,4] (fun q:Nat×List Rte=> [(5,.p (.int .i64 q.1))]) (fun q=> [Zw p,Kj (.p (.list true [])) (.p (.list true [])),Kj (.sl 3 0 q.2.length q.2.length) (.p (.list true [])),.elems 4 (q.2.map eRte)]) (fun q=>q.1<=i/\q.2.length=i+1/\UR altR q.1 q.2=R (i+1)/\ ∀r∈q.2,r∈p.routes) (fun q=>q.1) (i,R i++ [nth p.routes i]) ⟨Nat.le_refl _,by simp;omega,hsu.symm,fun r hr=>by
    rcases List.mem_append.1 hr with hr | hr
    ·exact hm1 r hr
    ·simp only [List.mem_cons,List.not_mem_nil,or_false] at hr
     subst hr;exact hm2⟩ (Weak.mk ?_) ?_
   ·simp (disch:=omega) only [Zw,Kj,List.map_append,List.map_cons,List.map_nil,List.length_append,List.length_cons,List.length_nil,Nat.zero_add,go_sem,seval]
   ·rintro ⟨j,M⟩ ⟨hj,hM,hd,hmm⟩;simp only at hj hM hd hmm;simp (disch:=omega) only [Zw,Kj,go_sem,seval];rcases Nat.eq_zero_or_pos j with hz | hz
    ·subst hz;rw [UR] at hd;refine Xs ?_;simp (disch:=omega) only [go_sem,seval];exact ⟨i+1,Za,Za,Weak.mk (by simp (disch:=omega) only [Zw,Kj,<- hd,go_sem,seval])⟩
    ·obtain ⟨j,rfl⟩: ∃k,j=k+1:=⟨j-1,Za⟩;have el1:YK (M.map eRte) (j+1)=eRte (nth M (j+1)):=Xe Za;have el2:YK (M.map eRte) j=eRte (nth M j):=Xe Za;have b1:=hv _ (hmm _ (ZQ (l:=M) (i:=j+1) Za));have b2:=hv _ (hmm _ (ZQ (l:=M) (i:=j) Za));rw [UR] at hd;have hlm:(M.map eRte).length=M.length:=List.length_map ..;refine Xs ?_;simp (disch:=omega) only [el1,el2,eq_self,true_and,show (j+1<M.length)=True from eq_true Za,show (j<M.length)=True from eq_true Za,show ((j:Int)+1-1).toNat=j from Za,show decide (0<(j:Int)+1)=true from decide_eq_true Za,go_sem,seval]
     refine Zn (FV (nth M (j+1)) (nth M j) b1 b2) ?_;simp (disch:=omega) only [go_sem,seval];refine cD ?_ ?_<;>intro h3<;>simp (disch:=omega) only [Sh.out h3,go_sem,seval]
     ·rw [if_pos h3] at hd
      have hs1:(M.map eRte).set (j+1) (.agg [.int .i64 (nth M j).typ,.int .i64 (nth M j).start,.list (nth M j).rests_c ((nth M j).rests.map eB),.list (nth M j).visits_c ((nth M j).visits.map ZV)])=List.map eRte (M.set (j+1) (nth M j)):=by rw [List.map_set,E0]
      have hl1:(M.set (j+1) (nth M j)).length=M.length:=List.length_set ..
      have hl2:(List.map eRte (M.set (j+1) (nth M j))).length=M.length:=by rw [List.length_map,hl1]
      have hn1:nth (M.set (j+1) (nth M j)) j=nth M j:=by
       rw [Zi Za,List.getElem_set_ne Za,<- Zi Za]
      have hs2:(List.map eRte (M.set (j+1) (nth M j))).set j (.agg [.int .i64 (nth M (j+1)).typ,.int .i64 (nth M (j+1)).start,.list (nth M (j+1)).rests_c ((nth M (j+1)).rests.map eB),.list (nth M (j+1)).visits_c ((nth M (j+1)).visits.map ZV)])=List.map eRte (Vg M (j+1)):=by
       show _=List.map eRte ((M.set (j+1) (nth M j)).set j (nth M (j+1)))
       conv=>rhs;rw [List.map_set,E0]
      simp (disch:=omega) only [el1,el2,hs1,hs2,hl1,hn1,eq_self,true_and,show (j+1<M.length)=True from eq_true Za,show (j<M.length)=True from eq_true Za,show ((j:Int)+1-1).toNat=j from Za,go_sem,seval];refine Zv 9 mixed Ze Ze ?_;simp (disch:=omega) only [el1,el2,hs1,hs2,hl1,hn1,eq_self,true_and,show (j+1<M.length)=True from eq_true Za,show (j<M.length)=True from eq_true Za,show ((j:Int)+1-1).toNat=j from Za,go_sem,seval]
      try simp (disch:=omega) only [el1,el2,hs1,hs2,hl1,hn1,eq_self,true_and,show (j+1<M.length)=True from eq_true Za,show (j<M.length)=True from eq_true Za,show ((j:Int)+1-1).toNat=j from Za,go_sem,seval]
      exact ⟨(j,Vg M (j+1)),⟨by simp only;omega,by rw [Yd];exact hM,hd,fun r hr=>hmm r ((QO Za).mem_iff.1 hr)⟩,by simp only;omega,Weak.mk (by simp (disch:=omega) only [Zw,Kj,hs1,hs2,Yd,Int.add_sub_cancel,go_sem,seval])⟩
     ·rw [if_neg (by rw [h3];simp)] at hd;exact ⟨i+1,Za,Za,Weak.mk (by simp (disch:=omega) only [Zw,Kj,<- hd,go_sem,seval])⟩
  ·have hkl:i=p.routes.length:=Za
   subst hkl;refine ZH [22] [1,2,3] (fun i:Nat=> [(7,.p (.int .i64 i))]) (fun i=> [Zw p,Kj (.p (.list true [])) (.p (.list true [])),Kj (.sl 3 0 (R p.routes.length).length (R p.routes.length).length) (.sl 4 0 (U i).length (U i).length),.elems 4 ((R p.routes.length).map eRte),.elems 1 ((U i).map eI)]) (fun i=>i<=p.unserved.length) (fun i=>p.unserved.length-i) 0 Za ((Weak.nilC (o:=2) (j:=1) 1 (by rfl) (by rfl) Zb).trans (Weak.mk ?_)) ?_
   ·simp (disch:=omega) only [Zw,Kj,hU0,List.map_nil,List.length_nil,List.set_cons_succ,List.set_cons_zero,go_sem,seval]
   ·intro i hi;have hiu:=hUl i hi;simp (disch:=omega) only [Zw,Kj,go_sem,seval];refine cD ?_ ?_<;>intro h2<;>simp (disch:=omega) only [Sh.out h2,go_sem,seval]
    ·have hi2:i<p.unserved.length:=Za
     have hsu:=hUs i hi2;refine Zv 8 mixed Ze Ze ?_;simp (disch:=omega) only [go_sem,seval]
     try simp (disch:=omega) only [List.set_cons_succ,List.set_cons_zero,go_sem,seval]
     refine Zj [1,2,3,7] (fun q:Nat×List Int=> [(8,.p (.int .i64 q.1))]) (fun q=> [Zw p,Kj (.p (.list true [])) (.p (.list true [])),Kj (.sl 3 0 (R p.routes.length).length (R p.routes.length).length) (.sl 4 0 q.2.length q.2.length),.elems 4 ((R p.routes.length).map eRte),.elems 1 (q.2.map eI)]) (fun q=>q.1<=i/\q.2.length=i+1/\UR (fun a b:Int=>decide (a<b)) q.1 q.2=U (i+1)) (fun q=>q.1) (i,U i++ [nth p.unserved i]) ⟨Nat.le_refl _,by simp;omega,hsu.symm⟩ (Weak.mk ?_) ?_
     ·simp (disch:=omega) only [Zw,Kj,List.map_append,List.map_cons,List.map_nil,List.length_append,List.length_cons,List.length_nil,Nat.zero_add,go_sem,seval]
     ·rintro ⟨j,M⟩ ⟨hj,hM,hd⟩;simp only at hj hM hd;simp (disch:=omega) only [Zw,Kj,go_sem,seval];rcases Nat.eq_zero_or_pos j with hz | hz
      ·subst hz;rw [UR] at hd;refine Xs ?_;simp (disch:=omega) only [go_sem,seval];exact ⟨i+1,Za,Za,Weak.mk (by simp (disch:=omega) only [Zw,Kj,<- hd,go_sem,seval])⟩
      ·obtain ⟨j,rfl⟩: ∃k,j=k+1:=⟨j-1,Za⟩;have el1:YK (M.map eI) (j+1)=eI (nth M (j+1)):=Xe Za;have el2:YK (M.map eI) j=eI (nth M j):=Xe Za;rw [UR] at hd;have hlm:(M.map eI).length=M.length:=List.length_map ..;refine Xs ?_;simp (disch:=omega) only [el1,el2,eq_self,true_and,show (j+1<M.length)=True from eq_true Za,show (j<M.length)=True from eq_true Za,show ((j:Int)+1-1).toNat=j from Za,show decide (0<(j:Int)+1)=true from decide_eq_true Za,go_sem,seval]
       refine cD ?_ ?_<;>intro h3<;>simp (disch:=omega) only [Sh.out h3,go_sem,seval]
       ·rw [if_pos (decide_eq_true h3)] at hd
        have hs1:(M.map eI).set (j+1) (.int .i64 (nth M j))=List.map eI (M.set (j+1) (nth M j)):=by rw [List.map_set,OV]
        have hl1:(M.set (j+1) (nth M j)).length=M.length:=List.length_set ..
        have hl2:(List.map eI (M.set (j+1) (nth M j))).length=M.length:=by rw [List.length_map,hl1]
        have hn1:nth (M.set (j+1) (nth M j)) j=nth M j:=by
         rw [Zi Za,List.getElem_set_ne Za,<- Zi Za]
        have hs2:(List.map eI (M.set (j+1) (nth M j))).set j (.int .i64 (nth M (j+1)))=List.map eI (Vg M (j+1)):=by
         show _=List.map eI ((M.set (j+1) (nth M j)).set j (nth M (j+1)))
         conv=>rhs;rw [List.map_set,OV]
        try simp (disch:=omega) only [el1,el2,hs1,hs2,hl1,hn1,eq_self,true_and,show (j+1<M.length)=True from eq_true Za,show (j<M.length)=True from eq_true Za,show ((j:Int)+1-1).toNat=j from Za,go_sem,seval]
        refine Zv 9 mixed Ze Ze ?_;simp (disch:=omega) only [el1,el2,hs1,hs2,hl1,hn1,eq_self,true_and,show (j+1<M.length)=True from eq_true Za,show (j<M.length)=True from eq_true Za,show ((j:Int)+1-1).toNat=j from Za,go_sem,seval]
        try simp (disch:=omega) only [el1,el2,hs1,hs2,hl1,hn1,eq_self,true_and,show (j+1<M.length)=True from eq_true Za,show (j<M.length)=True from eq_true Za,show ((j:Int)+1-1).toNat=j from Za,go_sem,seval]
        exact ⟨(j,Vg M (j+1)),⟨by simp only;omega,by rw [Yd];exact hM,hd⟩,by simp only;omega,Weak.mk (by simp (disch:=omega) only [Zw,Kj,hs1,hs2,Yd,Int.add_sub_cancel,go_sem,seval])⟩
       ·rw [if_neg (by simpa using h3)] at hd;exact ⟨i+1,Za,Za,Weak.mk (by simp (disch:=omega) only [Zw,Kj,<- hd,go_sem,seval])⟩
    ·have hkl:i=p.unserved.length:=Za
     subst hkl;refine Zr (Weak.fz (o:=3) (by rfl)) ?_;refine Zr (Weak.fz (o:=4) (by rfl)) ?_;refine Zd [] _ _ _ _ ?_;simp (disch:=omega) only [List.map_cons,List.map_nil,List.set_cons_succ,List.set_cons_zero,Zw,Kj,List.length_map,eq_self,if_true,go_sem,seval];exact we
theorem Ei (p:Pln):Um p p=true:=As rfl (fun k _=>QJ.2 ⟨rfl,rfl,rfl,rfl⟩) rfl
theorem G1 (p:Pln):V9 (V9 p)=V9 p:=by
 unfold V9;simp only;rw [L5,L4]
theorem DO (haw:PC 16 [] (.bool true)) (x:Inst) (hw:x.wf 1048576) (p:Pln) (hp:p.wf 1048576) :
  PC 7 [.p (Xt x),.p (Ws p)] (.bool true):=by
 have hr:=hp.1;have hb:=Fz hp;have hu:=hp.2.2.1;refine WQ [] Tryz.func7 rfl vC ?_;simp (disch:=omega) only [Tryz.f7,go_sem,seval];refine (M8 p hp).useV fun b hbf=> ?_;simp (disch:=omega) only [go_sem,seval]
 cases b with
 | false =>
  simp (disch:=omega) only [Bool.not_false,go_sem,seval];refine (haw).use ?_;simp (disch:=omega) only [go_sem,seval]
 | true =>
  simp (disch:=omega) only [Bool.not_true,go_sem,seval];have h12:=hbf rfl;have hv: ∀r∈p.routes,r.visits.length<=1048576:=fun r h=>(hb r h).1;have hperm:(V9 p).routes.Perm p.routes:=YX _ (Nat.le_refl _);have hperm2:(V9 p).unserved.Perm p.unserved:=VZ _;have c1:=Fx p Za hu hv;have c2:=N4 p hr hu hv;have hql:(V9 p).routes.length=p.routes.length:=hperm.length_eq;have hqu:(V9 p).unserved.length=p.unserved.length:=hperm2.length_eq;have hqb: ∀r∈(V9 p).routes,Vf r:=fun r h=>hb r (hperm.mem_iff.1 h);have c3:=Fx (V9 p) Za Za fun r h=>(hqb r h).1
  rw [G1] at c3;have hpri:=fun x=>Lz (x:=x) hperm.symm hperm2.symm;have hs:=Ei (V9 p)
  generalize V9 p=q at *
  have d1:=CQ q q ⟨Za,Za,hqb⟩ ⟨Za,Za,hqb⟩;have d2:=A8 q q ⟨Za,Za,hqb⟩ ⟨Za,Za,hqb⟩;have d3:=A8 p q ⟨Za,Za,hb⟩ ⟨Za,Za,hqb⟩;have d4:=CQ p q ⟨Za,Za,hb⟩ ⟨Za,Za,hqb⟩;rw [hs] at d1 d2;generalize Um p q=s at d3 d4;refine (c1).use ?_;simp (disch:=omega) only [go_sem,seval];refine Xs ?_;simp (disch:=omega) only [go_sem,seval];refine Zn (c2) ?_;simp (disch:=omega) only [go_sem,seval];refine Zn (d1) ?_
  simp (disch:=omega) only [go_sem,seval]
  try simp (disch:=omega) only [Bool.not_true,go_sem,seval]
  refine Zn (c3) ?_;simp (disch:=omega) only [go_sem,seval];refine Zn (d2) ?_;simp (disch:=omega) only [go_sem,seval]
  try simp (disch:=omega) only [Bool.not_true,go_sem,seval]
  refine Zn (d3) ?_;simp (disch:=omega) only [go_sem,seval];refine Zn (d4) ?_;simp (disch:=omega) only [go_sem,seval];refine ((Ro x hw).frozenE).useV fun m hm=> ?_;simp (disch:=omega) only [go_sem,seval];refine cD ?_ ?_<;>intro h1<;>simp (disch:=omega) only [Sh.out h1,go_sem,seval]
  ·refine (haw).use ?_;simp (disch:=omega) only [go_sem,seval]
  ·have hx:InstOk x:=hm.emp.1 (List.length_eq_zero_iff.1 Za);have e1:=CC x p hx hr hu hb;have e2:=CC x q hx Za Za hqb;obtain ⟨p1,p2⟩:=hpri x;generalize V6 x p=a at e1 p1 p2;generalize V6 x q=b at e2 p1 p2;obtain ⟨a1,a2⟩:=a;obtain ⟨b1,b2⟩:=b;simp only at e1 e2 p1 p2;subst p1;refine W4 e1 ?_;simp (disch:=omega) only [go_sem,seval];refine W4 e2 ?_
   by_cases z:a2=0
   ·have z2:b2=0:=p2.1 z;subst z z2;simp (disch:=omega) only [eq_self,decide_true,go_sem,seval];refine (haw).use ?_;simp (disch:=omega) only [go_sem,seval]
    try simp
   ·have z2: ¬b2=0:=fun g=>z (p2.2 g);simp (disch:=omega) only [z,z2,eq_self,decide_true,decide_false,go_sem,seval];refine (haw).use ?_;simp (disch:=omega) only [go_sem,seval]
    try simp
theorem A3 (x:Inst) (hw:x.wf 1048576) (p:Pln) (hp:p.wf 1048576):PC 7 [.p (Xt x),.p (Ws p)] (.bool true):=DO F5 x hw p hp
end Go.Proofs.YtmbelkfkhclnkaaGreatDoor.K
