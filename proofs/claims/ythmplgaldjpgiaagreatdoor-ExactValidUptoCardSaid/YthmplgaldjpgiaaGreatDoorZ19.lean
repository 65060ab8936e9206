/- Declarations that the closing texts need, part 19: joined by tools/slim.py. -/
import Derived.Test.YthmplgaldjpgiaaGreatDoorZ18
import Derived.Shelf.Slices.In.SortNone
import Derived.Shelf.Sort.Plain
set_option linter.unusedVariables false
set_option linter.unusedSimpArgs false
namespace Go.AM
open Go.RowKit Go.Shelf Go.Lib Go.Sort Go.Proofs
theorem ACalls.sortInts {P:Program} {ρ:Ren} (L:Lays.n189 P ρ) (hg:Zf P (ρ.f 189)) (l:List Int) (hlen:l.length<4611686018427387904) {H:List AM.Obj} {o:Nat} (hHo:H[o]? =some (.elems 1 (l.map (PV.int .i64)))) :
  ACalls P (ρ.f 189) [.sl o 0 l.length l.length] H fun y H'=>y= .tup []/\H'=H.set o (.elems 1 ((l.mergeSort fun x y=>decide (x<=y)).map (PV.int .i64))):=by
 refine ⟨hg,fun F ι w vs hr hv=> ?_⟩;obtain ⟨hv1,hv2⟩:=hv;have h0:=hv2 0 _ rfl
 have hvs:vs= #[vs.getD 0 undef]:=by
  apply Array.ext
  ·simpa using hv1
  ·intro i h2 h3
   have:i=0:=by simp at h3;omega
   subst this;simp [Array.getD,h2]
 rw [hvs];generalize vs.getD 0 undef=v0 at h0 ⊢;clear hvs hv1 hv2;have hol:=(List.getElem?_eq_some_iff.1 hHo).1;generalize hL:l.length=n at h0 hlen
 by_cases hn:n=0
 ·subst hn;have hl0:l= []:=List.length_eq_zero_iff.1 hL;subst hl0
  have e1:H.set o (.elems 1 ((([]:List Int).mergeSort fun x y=>decide (x<=y)).map (PV.int .i64)))=H:=by
   apply List.ext_getElem?;intro i;rw [List.getElem?_set]
   split
   ·rename_i hi;subst hi;rw [hHo];simp
   ·rfl
  obtain ⟨ad,cap,rfl⟩: ∃ad cap,v0= .slice ad 0 cap:=by
   cases h0 with
   | slNil=>exact ⟨_,_,rfl⟩
   | sl=>exact ⟨_,_,rfl⟩
   | slD _ _ _ _ _ hd=>rw [hHo] at hd;cases hd
   | slS _ _ _ _ _ S2 xs2 hd hne=>rw [hHo] at hd;simp at hd;obtain ⟨_,rfl⟩:=hd;simp at hne
   | slC _ _ _ _ _ _ hd=>rw [hHo] at hd;cases hd
  refine (Any.slices_Sort_int_none L ad cap w).mono ?_;rintro e w' ⟨rfl,rfl⟩;exact ⟨.tup [],_,ι,_,rfl,⟨rfl,e1.symm⟩,Good.refl hr,.tup [] #[] (by simp) (by simp)⟩
 cases h0 with
 | slNil=>omega
 | slD _ _ _ _ _ hd=>rw [hHo] at hd;cases hd
 | slS _ _ _ _ _ S ys hd hlt=>rw [hHo] at hd;simp at hd;obtain ⟨_,rfl⟩:=hd;simp at hlt;omega
 | slC _ _ _ _ _ _ hd=>rw [hHo] at hd;cases hd
 | sl _ _ _ _ b S cap t ys c hι hH ht2 hw hcap hl hle hm =>
 rw [hHo] at hH;simp at hH;obtain ⟨rfl,rfl⟩:=hH;rcases hr.elm o 1 (l.map (PV.int .i64)) hHo with ⟨e1,_⟩ | ⟨b2,c2,t2,cap2,e1,e2,e3,e4,e5,e6,e7⟩
 ·rw [hι] at e1;cases e1
 rw [hι] at e1;simp at e1;subst e1;rw [hw] at e2;simp at e2;obtain ⟨rfl,rfl⟩:=e2;have hbs:b<w.heap.size:=(hr.avo o b hι).2;simp only [List.length_map,Nat.mul_one] at e3 e4 hcap
 have cell: ∀i (hi:i<n),c.getD i undef= .int .i64 (l[i]'(by omega)):=fun i hi=>by
  have:=e7 i (.int .i64 (l[i]'(by omega))) 0 (.int .i64 (l[i]'(by omega))) (by simp [hL,hi]) (by rfl);simp only [Nat.mul_one,Nat.add_zero] at this;exact this.int_inv
 have hHolds:Holds (Value.int .i64) w b (0*1) l.toArray:=fun j hj=>by
  have hj2:j<n:=by simpa [hL] using hj
  have hjc:j<c.size:=by omega
  refine ⟨?_,by simp [World.frozen?,hw]⟩;have e9:=cell j hj2;simp only [Array.getD_eq_getD_getElem?,hjc,getElem?_pos,Option.getD_some] at e9;simp [World.cell?,hw,hjc,e9,hj2,hL]
 have main:=Any.slices_Sort_int L b (0*1) cap l w hHolds hbs (by omega);rw [hL] at main;refine main.mono ?_;rintro e' w' ⟨rfl,m,os,rfl⟩;generalize hS:(l.mergeSort fun x y=>decide (x<=y))=s
 have hsl:s.length=n:=by rw [<- hS,(List.mergeSort_perm l _).length_eq,hL]
 have hat:(grow (putRow (Value.int .i64) (Sort.ahead w m) b (0*1) s.toArray) os).heap[b]? =some (.cells (putCells (Value.int .i64) 0 s.toArray c) t (0,0)):=by
  simp only [grow,putRow,mapBlock,Sort.ahead];rw [Array.getElem?_append_left (by simpa using hbs),Array.getElem?_modify,if_pos rfl,hw]
  rfl
 have hother: ∀k,k<w.heap.size->k≠b->(grow (putRow (Value.int .i64) (Sort.ahead w m) b (0*1) s.toArray) os).heap[k]? =w.heap[k]? :=fun k hk hne=>by
  simp only [grow,putRow,mapBlock,Sort.ahead];rw [Array.getElem?_append_left (by simpa using hk),Array.getElem?_modify,if_neg (fun e=>hne e.symm)]
 have hcs:(putCells (Value.int .i64) 0 s.toArray c).size=c.size:=by simp [putCells]
 have g:=ZY (xs':=s.map (PV.int .i64)) (w':=grow (putRow (Value.int .i64) (Sort.ahead w m) b (0*1) s.toArray) os) (cap:=cap2) hr hHo rfl (Tp.of rfl (by simp [grow,putRow,mapBlock,Sort.ahead])) rfl
  (fun c0 t0 hc0=>by rw [hw] at hc0;simp at hc0;obtain ⟨rfl,rfl⟩:=hc0;exact ⟨rfl,hcs⟩) (by simp [grow,putRow,mapBlock,Sort.ahead]) hat hother
  (.inl ⟨hι,.inl ⟨by simp [hsl,hL],fun c0 t0 hc0=>by rw [hw] at hc0;simp at hc0;obtain ⟨rfl,rfl⟩:=hc0;exact ⟨rfl,hcs⟩⟩⟩)
  (by rw [hcs,e3,Nat.mul_one]) (by simp;omega) e5 (fun i x hi=>by
   rw [List.getElem?_map] at hi;obtain ⟨y,_,rfl⟩:=Option.map_eq_some_iff.1 hi
   rfl) (fun i x j y hi hj=>by
   rw [List.getElem?_map] at hi;obtain ⟨q,hq,rfl⟩:=Option.map_eq_some_iff.1 hi
   have hj0:j=0:=by have:=(List.getElem?_eq_some_iff.1 hj).1;simpa [PV.cells] using this
   subst hj0;simp [PV.cells] at hj;subst hj;have hil:=(List.getElem?_eq_some_iff.1 hq).1
   have hic:i<c.size:=by omega
   have e9:(putCells (Value.int .i64) 0 s.toArray c).getD (i*1+0) undef= .int .i64 q:=by
    have hg:=(List.getElem?_eq_some_iff.1 hq).2;simp [putCells,Array.getD_eq_getD_getElem?,hic,hil,hg]
   rw [e9]
   exact .int _ _)
 have eι:ι.set o (some b)=ι:=by
  apply List.ext_getElem?;intro i;rw [List.getElem?_set];have hιl:=(List.getElem?_eq_some_iff.1 hι).1
  split
  ·rename_i hi;subst hi;rw [hι]
  ·rfl
 exact ⟨.tup [],_,_,_,rfl,⟨rfl,rfl⟩,g,.tup [] #[] (by simp) (by simp)⟩
end Go.AM
set_option linter.unusedVariables false
set_option linter.unusedSimpArgs false
namespace Go.Proofs.YthmplgaldjpgiaaGreatDoor.K
open Go Go.AM Go.Proofs
set_option maxRecDepth 8000
set_option maxHeartbeats 8000000
def ZpI (l:List Int):List Int:=l.mergeSort fun x y=>decide (x<=y)
theorem ZgB (l:List Int):(ZpI l).Perm l:=List.mergeSort_perm l _
theorem ZkT {H:List AM.Obj} {o:Nat} (l:List Int) (hl:l.length<=1048576) (hH:H[o]? =some (.elems 1 (l.map eI))) :
  ACalls Tryz.prog 42 [.sl o 0 l.length l.length] H fun y H'=>y= .tup []/\H'=H.set o (.elems 1 ((ZpI l).map eI)) :=
 ACalls.sortInts ZoB Zzp l (by omega) hH
set_option maxRecDepth 60000
def ZkC (p:Pln):Pln:=⟨false,QF Ut p.routes.length p.routes,false,ZpI p.unserved⟩
theorem Zob (p:Pln) (hl:p.routes.length<=19) (hu:p.unserved.length<=1048576) (hv: ∀r∈p.routes,r.visits.length<=1048576) :
  PC 14 [.p (JB p)] (JB (ZkC p)):=by
 have c1:=ZaC p.routes p.routes_c (by omega);have c2:=ZaF p.unserved p.unserved_c hu;refine Zc [4] Tryz.func14 rfl Zzj ?_;simp (disch:=omega) only [Tryz.f14,go_sem,seval];refine Xo [2,5] 7 mixed (by kernel_rfl) (by kernel_rfl) (by kernel_rfl) (by simp) ?_;simp (disch:=omega) only [go_sem,seval];refine ZG 2 (.sl 2 0 p.routes.length p.routes.length) [.elems 4 (p.routes.map eRte)] (by kernel_rfl) (by simp (disch:=omega) only [go_sem,seval];exact c1.useF ⟨rfl,rfl⟩) ?_;refine ZG 5 (.sl 3 0 p.unserved.length p.unserved.length) [.elems 4 (p.routes.map eRte),.elems 1 (p.unserved.map eI)] (by kernel_rfl) (by simp (disch:=omega) only [go_sem,seval];exact c2.useF ⟨rfl,rfl⟩) (XV ?_)
 simp (disch:=omega) only [go_sem,seval];refine ((Zaw p.unserved p.routes hl hv).back [.cells [.sl 2 0 p.routes.length p.routes.length,.sl 3 0 p.unserved.length p.unserved.length],.cells [.p (.list true []),.p (.list true [])]] (by rfl)).mono ?_;rintro y H' ⟨z,H1,⟨rfl,rfl⟩,rfl,rfl⟩;have hl2:=ZeA (lt:=Ut) (l:=p.routes) (i:=p.routes.length) (Nat.le_refl _)
 generalize hR:QF Ut p.routes.length p.routes=R at *
 simp (disch:=omega) only [Xw,shV,shVs,shO,go_sem,seval];refine (ZkT p.unserved hu (by rfl)).mono ?_;rintro y H' ⟨rfl,rfl⟩;have hl3:=(ZgB p.unserved).length_eq
 generalize hU:ZpI p.unserved=U at *
 simp (disch:=omega) only [List.set_cons_succ,List.set_cons_zero,go_sem,seval];refine Zm (Weak.fz (o:=2) (by rfl)) ?_;refine Zb [4] _ _ _ _ ?_;simp (disch:=omega) only [List.map_cons,List.map_nil,List.set_cons_succ,List.set_cons_zero,List.length_map,hl2,eq_self,if_true,go_sem,seval];refine Zm (Weak.fz (o:=3) (by rfl)) ?_;refine Zb [] _ _ _ _ ?_;simp (disch:=omega) only [List.map_cons,List.map_nil,List.set_cons_succ,List.set_cons_zero,List.length_map,hl3,eq_self,if_true,go_sem,seval];subst hR;subst hU;rw [show ZkC p=⟨false,QF Ut p.routes.length p.routes,false,ZpI p.unserved⟩ from rfl]
 exact we
def ZkU (x:Inst) (l:List Col) (g:List Int) (k:Nat):Int:=if (nth x.orders k).off=true then 0 else if 0<=nth g k then (if tzN (nth l (nth g k).toNat).set.toNat=(k:Int) then (nth l (nth g k).toNat).price else 0) else skR x k
def ZoH (x:Inst) (l:List Col) (g:List Int):Nat->Int
 | 0=>0
 | d+1=>ZkU x l g (x.orders.length-(d+1))+ZoH x l g d
theorem Zas {x:Inst} {l ys:List Col} (hc:Ctx x l ys): ∀(d:Nat) (a:List Int) (s:St) (p:Int),d<=x.orders.length->Nd x l a s (x.orders.length-d)->(∀T:Nat,T<x.types.length->(usdI l a T x.orders.length:Int)<=(nth x.types T).count)-> ∀q∈lvs x l d a p,
  (∀T:Nat,T<x.types.length->(usdI l q.1 T x.orders.length:Int)<=(nth x.types T).count)/\(∀t,x.orders.length-d<=t->t<x.orders.length->(nth x.orders t).off=true\/0<=nth q.1 t\/0<=(nth x.orders t).penalty)/\q.2=p+ZoH x l q.1 d
 | 0,a,s,p,_,h,hu,q,hq=>by
  simp only [lvs,List.mem_cons,List.not_mem_nil,or_false] at hq;subst hq;exact ⟨hu,fun t h1 h2=>by omega,by simp [ZoH]⟩
 | d+1,a,s,p,hd,h,hu,q,hq=>by
  obtain ⟨k,hk⟩: ∃k,k=x.orders.length-(d+1):=⟨_,rfl⟩
  have hkn:k<x.orders.length:=by omega
  have hk1:x.orders.length-d=k+1:=by omega
  rw [<- hk] at h ⊢;rw [lvs,<- hk] at hq;rw [ZoH,<- hk];have old:=fun (a:List Int) (p:Int) (hl:a.length=x.orders.length) (hq:q∈lvs x l d a p)=>(UO d a p (by omega) hl q hq).2 k hkn (.inl (by omega))
  split at hq
  ·rename_i ho;obtain ⟨i1,i2,i3⟩:=Zas hc d a (skS s) p (by omega) (by rw [hk1];exact h.skip' hkn) hu q hq;have e:=old a p h.len hq;refine ⟨i1,fun t h1 h2=> ?_,?_⟩
   ·by_cases e2:t=k
    ·subst e2;rw [e];exact ho.imp id .inl
    ·exact i2 t (by omega) h2
   ·have z:ZkU x l q.1 k=0:=by
     unfold ZkU;rcases ho with ho | ho
     ·rw [if_pos ho]
     ·split
      ·rfl
      ·rw [e,if_pos ho,if_neg fun htz=> ?_];obtain ⟨t,t1,t2⟩:=h.old k hkn (Nat.le_refl _) ho;have hr:=h.rng k hkn;obtain ⟨_,s0,s1,_⟩:=hc.set (Zn (l:=l) (i:=(nth a k).toNat) (by omega));have:=((Kl s0 s1 hc.n4 hkn).1 htz).2 t (by omega) t2;omega
    rw [z,i3];omega
  ·rename_i ho;have hoff: ¬(nth x.orders k).off=true:=fun e=>ho (.inl e);have hak:nth a k<0:=Int.not_le.1 fun g=>ho (.inr g);rw [List.mem_append,List.mem_flatMap] at hq;rcases hq with ⟨j,hj,hq⟩ | hq
   ·have hj:=List.mem_range.1 hj
    split at hq
    ·rename_i hcan;obtain ⟨hy,htz⟩:=(Zdk hc h hkn hj).1 hcan;have hch:=h.child hc hkn hj hcan;obtain ⟨c1,c2⟩:=Up h.len hcan;have hcan':=hcan;simp only [Zgn,Bool.and_eq_true,decide_eq_true_eq,Q5,h.len] at hcan';obtain ⟨hb,hcnt,hneg⟩:=hcan'
     have hfr: ∀i,i<x.orders.length->(nth l j).set.toNat.testBit i=false->nth a i≠(j:Int):=fun i hi _ e=>by
      have:=h.grp i hi (by omega) k hkn (by rw [e,Int.toNat_natCast];exact hb);omega
     obtain ⟨i1,i2,i3⟩:=Zas hc d _ _ _ (by omega) (by rw [hk1];exact hch) (fun T hT=>by
      rw [Ub h.len hkn hb hneg hfr T _ (Nat.le_refl _)];have h0:=hu T hT
      by_cases e:(nth l j).typ=(T:Int)
      ·rw [if_pos ⟨hkn,e⟩];rw [e,Int.toNat_natCast] at hcnt
       push_cast;omega
      ·rw [if_neg fun g=>e g.2];omega) q hq
     have e:=old _ _ (by rw [VW];exact h.len) hq;rw [ZM (by rw [h.len];exact hkn),if_pos c1] at e;refine ⟨i1,fun t h1 h2=> ?_,?_⟩
     ·by_cases e2:t=k
      ·subst e2;rw [e];exact .inr (.inl (by omega))
      ·exact i2 t (by omega) h2
     ·have z:ZkU x l q.1 k=(nth l j).price:=by
       unfold ZkU;rw [if_neg hoff,e,if_pos (by omega),Int.toNat_natCast,if_pos htz]
      rw [z,i3];omega
    ·simp at hq
   ·split at hq
    ·rename_i hpen;obtain ⟨i1,i2,i3⟩:=Zas hc d a (skS s) _ (by omega) (by rw [hk1];exact h.skip' hkn) hu q hq;have e:=old a _ h.len hq;refine ⟨i1,fun t h1 h2=> ?_,?_⟩
     ·by_cases e2:t=k
      ·subst e2;exact .inr (.inr hpen)
      ·exact i2 t (by omega) h2
     ·have z:ZkU x l q.1 k=skR x k:=by
       unfold ZkU;rw [if_neg hoff,e,if_neg (by omega)]
      rw [z,i3];omega
    ·simp at hq
theorem ZtM {x:Inst} {l ys:List Col} (hc:Ctx x l ys) {g:List Int} {s:St} (hg:Nd x l g s x.orders.length) {k:Nat} (hk:k<x.orders.length) (h0:0<=nth g k):ZoE g k=true↔tzN (nth l (nth g k).toNat).set.toNat=(k:Int):=by
 have hr:=hg.rng k hk;obtain ⟨_,s0,s1,_⟩:=hc.set (Zn (l:=l) (i:=(nth g k).toNat) (by omega));rw [QC,Kl s0 s1 hc.n4 hk]
 constructor
 ·intro h;refine ⟨hg.own k hk h0,fun i hi hb=>Nat.le_of_not_lt fun hlt=>h i hlt (hg.grp k hk h0 i hi hb)⟩
 ·rintro ⟨_,h⟩ t ht e;have h2:=hg.own t (by omega) (by omega);rw [e] at h2;have:=h t (by omega) h2;omega
theorem ZlH {x:Inst} {l ys:List Col} (hc:Ctx x l ys) {g:List Int} {s:St} (hg:Nd x l g s x.orders.length) (T:Int): ∀d k,k+d=x.orders.length->(RA l g d k).countP (fun c=>decide (c.typ=T))+usdI l g T k=usdI l g T (k+d)
 | 0,k,_=>by simp [RA]
 | d+1,k,h=>by
  have ih:=ZlH hc hg T d (k+1) (by omega)
  have hk:k<x.orders.length:=by omega
  rw [RA,List.countP_append,show k+(d+1)=k+1+d by omega,<- ih,usdI,ZfP]
  by_cases h0:0<=nth g k
  ·have hf:=ZtM hc hg hk h0
   by_cases ht:tzN (nth l (nth g k).toNat).set.toNat=(k:Int)
   ·rw [if_pos ⟨h0,ht⟩,hf.2 ht,decide_eq_true h0]
    by_cases hT:(nth l (nth g k).toNat).typ=T
    ·simp [hT];omega
    ·simp [hT]
   ·rw [if_neg fun e=>ht e.2,show ZoE g k=false from by
     cases e:ZoE g k with
     | false=>rfl
     | true=>exact absurd (hf.1 e) ht]
    simp
  ·rw [if_neg fun e=>h0 e.1,decide_eq_false h0];simp
theorem UJ {α:Type} {p:α->Bool} : ∀ {l:List α},(l.Pairwise fun a b=> ¬(p a=true/\p b=true))->l.countP p<=1
 | [],_=>by simp
 | a::l,h=>by
  rw [List.pairwise_cons] at h;have ih:=UJ h.2;rw [List.countP_cons]
  split
  ·rename_i ha;have:l.countP p=0:=List.countP_eq_zero.2 fun b hb hpb=>h.1 b hb ⟨ha,hpb⟩;omega
  ·omega
theorem ZBq : ∀S:Fin 16,0<S.val-> ∃k:Fin 4,tzN S.val=(k.val:Int)/\S.val.testBit k.val=true:=by decide+kernel
theorem ZqG {x:Inst} {l ys:List Col} (hc:Ctx x l ys) {g:List Int} {s:St} (hg:Nd x l g s x.orders.length) {i:Nat} (hi:i<x.orders.length):(RA l g x.orders.length 0).countP (fun c=>c.set.toNat.testBit i)=if 0<=nth g i then 1 else 0:=by
 have hin: ∀t,t<x.orders.length->0<=nth g t->nth l (nth g t).toNat∈l:=fun t ht h0=>Zn (by have:=hg.rng t ht;omega)
 split
 ·rename_i h0;refine Nat.le_antisymm (UJ ?_) (List.countP_pos_iff.2 ?_)
  ·refine (ZlG x.orders.length 0).imp_of_mem fun {a b} ha hb h hh=> ?_;obtain ⟨t,_,t1,t2,t3,rfl⟩:=(QR _ _).1 ha;obtain ⟨u,_,u1,u2,u3,rfl⟩:=(QR _ _).1 hb;have e1:=hg.grp t (by omega) t2 i hi hh.1;have e2:=hg.grp u (by omega) u2 i hi hh.2;rw [<- e1,<- e2] at h;omega
  ·have hm:=hin i hi h0;obtain ⟨_,s0,s1,s2⟩:=hc.set hm;have h16:(nth l (nth g i).toNat).set.toNat<16:=Nat.lt_of_lt_of_le s1 (Nat.pow_le_pow_right (n:=2) (by omega) hc.n4);obtain ⟨k,k1,k2⟩:=ZBq ⟨_,h16⟩ s0;simp only at k1 k2;have hk:=(s2 _ k2).1;have e:=hg.grp i hi h0 k.val hk k2;refine ⟨nth l (nth g i).toNat,(QR _ _).2 ⟨k.val,by omega,by omega,by rw [e];exact h0,by rw [e];exact k1,by rw [e]⟩,hg.own i hi h0⟩
 ·rename_i h0;refine List.countP_eq_zero.2 fun c hcm hb=>h0 ?_;obtain ⟨t,_,t1,t2,t3,rfl⟩:=(QR _ _).1 hcm;rw [hg.grp t (by omega) t2 i hi hb];exact t2
theorem Zbk {x:Inst} {g:List Int} {u:Int} : ∀d k,u∈UA x g d k↔ ∃i,k<=i/\i<k+d/\nth g i<0/\(nth x.orders i).off=false/\u=(i:Int)
 | 0,k=>by simp [UA];omega
 | d+1,k=>by
  rw [UA,List.mem_append,Zbk d (k+1)]
  constructor
  ·rintro (h | ⟨i,h1,h2,h3⟩)
   ·split at h
    ·rename_i hh;exact ⟨k,by omega,by omega,hh.1,hh.2,by simpa using h⟩
    ·simp at h
   ·exact ⟨i,by omega,by omega,h3⟩
  ·rintro ⟨i,h1,h2,h3,h4,h5⟩;rcases Nat.lt_or_ge k i with h | h
   ·exact .inr ⟨i,by omega,by omega,h3,h4,h5⟩
   ·obtain rfl:i=k:=by omega
    rw [if_pos ⟨h3,h4⟩];exact .inl (by simp [h5])
theorem Zg1 {x:Inst} {g:List Int} : ∀d k,(UA x g d k).Pairwise fun a b=>a<b
 | 0,k=> .nil
 | d+1,k=>by
  rw [UA,List.pairwise_append];refine ⟨?_,Zg1 d (k+1),fun a ha b hb=> ?_⟩
  ·split<;>simp
  ·split at ha
   ·obtain ⟨i,h1,h2,h3,h4,rfl⟩:=(Zbk _ _).1 hb
    obtain rfl:a=(k:Int):=by simpa using ha
    omega
   ·simp at ha
theorem Zr4 {x:Inst} {g:List Int} {i:Nat} (hi:i<x.orders.length):(UA x g x.orders.length 0).countP (fun u=>decide (u=(i:Int)))=if nth g i<0/\(nth x.orders i).off=false then 1 else 0:=by
 split
 ·rename_i h;refine Nat.le_antisymm (UJ ((Zg1 _ _).imp fun {a b} h hh=> ?_)) (List.countP_pos_iff.2 ⟨(i:Int),(Zbk _ _).2 ⟨i,by omega,by omega,h.1,h.2,rfl⟩,by simp⟩);simp only [decide_eq_true_eq] at hh;omega
 ·rename_i h;refine List.countP_eq_zero.2 fun u hu e=>h ?_;obtain ⟨j,_,j1,j2,j3,rfl⟩:=(Zbk _ _).1 hu;simp only [decide_eq_true_eq] at e
  obtain rfl:j=i:=by omega
  exact ⟨j2,j3⟩
theorem Zlh {x:Inst} {l ys:List Col} (hc:Ctx x l ys) {g:List Int} {s:St} (hg:Nd x l g s x.orders.length): ∀d k,k+d=x.orders.length->((RA l g d k).map (·.price)).sum+((UA x g d k).map fun u=>skR x u.toNat).sum=ZoH x l g d
 | 0,k,_=>by simp [RA,UA,ZoH]
 | d+1,k,h=>by
  have ih:=Zlh hc hg d (k+1) (by omega)
  have hk:k<x.orders.length:=by omega
  rw [RA,UA,ZoH,<- ih,List.map_append,List.map_append,List.sum_append,List.sum_append,show x.orders.length-(d+1)=k by omega]
  have key:((if 0<=nth g k/\tzN (nth l (nth g k).toNat).set.toNat=(k:Int) then [nth l (nth g k).toNat] else []).map (·.price)).sum+((if nth g k<0/\(nth x.orders k).off=false then [(k:Int)] else []).map fun u=>skR x u.toNat).sum=ZkU x l g k:=by
   unfold ZkU
   by_cases h0:0<=nth g k
   ·have hr:=hg.rng k hk;have ho:(nth x.orders k).off=false:=((hc.set (Zn (l:=l) (i:=(nth g k).toNat) (by omega))).2.2.2 k (hg.own k hk h0)).2
    have e0: ¬(nth g k<0/\(nth x.orders k).off=false):=fun e=>by omega
    have e1: ¬(nth x.orders k).off=true:=by rw [ho];simp
    rw [if_neg e0,if_neg e1,if_pos h0]
    by_cases ht:tzN (nth l (nth g k).toNat).set.toNat=(k:Int)
    ·rw [if_pos ⟨h0,ht⟩,if_pos ht];simp
    ·rw [if_neg fun e=>ht e.2,if_neg ht];simp
   ·rw [if_neg fun e=>h0 e.1]
    cases ho:(nth x.orders k).off with
    | true=>simp
    | false=>rw [if_pos ⟨by omega,rfl⟩,if_neg (by simp),if_neg h0];simp
  omega
theorem ZiQ {x:Inst} (hx:InstOk x) {c:Col} (h:c∈W2 x): ∃(k:Nat) (m:List Vis),k<x.types.length/\okV x k m=true/\c=UP x k (XA m) m:=by
 obtain ⟨k,S,h1,h2,h3,h4,rfl⟩:=QA.1 h;have hf:=Z4 hx
 have hopn:0<=(nth x.types ((k:Nat):Int).toNat).opn:=by
  rw [Int.toNat_natCast];have:=(YP hx h1).1;omega
 unfold Kg at h4 ⊢
 split at h4
 ·rename_i hc;rw [if_pos hc];have hS:S / pw x.orders.length=0:=Nat.div_eq_of_lt h3;have ha:Alw x S:=(Vr (by have:=hf.len;omega) hS hf.val).1 hc.1;rw [ZlI hx (by omega) hS ha hopn] at hc ⊢;rcases Jb _ _ hc.2 with ⟨e,_⟩ | ⟨m,m1,m2,m3⟩
  ·cases e
  ·have m3:(Zx1 x (k:Int) S (Uk,false)).1=_:=m3;simp only [okR,Bool.and_eq_true,decide_eq_true_eq] at m2;have hr:RightV x m:=XD (r:=rtV (k:Int) m) (YK m2.2.2);have e:=m2.1;rw [hr.ord hf] at e
   have e:XA m=S:=by
    simp only at e;omega
   exact ⟨k,m,h1,m2.2.2,by rw [m3,e]⟩
 ·simp at h4
theorem Zn7 : ∀ {l:List Vis},l≠ []->(∃v∈l,v.order=U6 l)/\ ∀v∈l,U6 l<=v.order:=by
 intro l h
 cases l with
 | nil=>exact absurd rfl h
 | cons v m =>
  have key: ∀(m:List Vis) (n:Int),(m.foldl (fun n w=>if w.order<n then w.order else n) n=n\/ ∃w∈m,w.order=m.foldl (fun n w=>if w.order<n then w.order else n) n)/\m.foldl (fun n w=>if w.order<n then w.order else n) n<=n/\ ∀w∈m,m.foldl (fun n w=>if w.order<n then w.order else n) n<=w.order:=fun m=>by
   induction m with
   | nil=>exact fun n=>⟨.inl rfl,by simp,by simp⟩
   | cons w m ih =>
    intro n;rw [List.foldl_cons];obtain ⟨i1,i2,i3⟩:=ih (if w.order<n then w.order else n)
    generalize m.foldl (fun n w=>if w.order<n then w.order else n) (if w.order<n then w.order else n)=z at *
    refine ⟨?_,?_,fun u hu=> ?_⟩
    ·rcases i1 with i1 | ⟨u,hu,e⟩
     ·split at i1
      ·exact .inr ⟨w,by simp,i1.symm⟩
      ·exact .inl i1
     ·exact .inr ⟨u,List.mem_cons_of_mem _ hu,e⟩
    ·split at i2<;>omega
    ·rcases List.mem_cons.1 hu with rfl | hu
     ·split at i2<;>omega
     ·exact i3 u hu
  obtain ⟨k1,k2,k3⟩:=key m v.order;rw [U6];refine ⟨?_,fun w hw=> ?_⟩
  ·rcases k1 with e | ⟨w,hw,e⟩
   ·exact ⟨v,by simp,e.symm⟩
   ·exact ⟨w,List.mem_cons_of_mem _ hw,e⟩
  ·rcases List.mem_cons.1 hw with rfl | hw
   ·exact k2
   ·exact k3 w hw
theorem ZtI {x:Inst} (hx:InstOk x) (hn:x.orders.length<=4) {m:List Vis} (hr:RightV x m):U6 m=tzN (XA m):=by
 obtain ⟨⟨v,hv,e⟩,hmin⟩:=Zn7 hr.ne;have hi:=hr.inr v hv
 have hS:XA m<2^x.orders.length:=by
  rcases Nat.div_eq_zero_iff.1 (hr.lt (Z4 hx)).2 with h | h
  ·have:0<pw x.orders.length:=Nat.two_pow_pos _;omega
  ·exact h
 have:=(Kl (Nat.pos_of_ne_zero (KU hr)) hS hn (show (U6 m).toNat<x.orders.length by omega)).2 ⟨(hr.bit _).2 ⟨v,hv,by omega⟩,fun i _ hb=>by
  obtain ⟨w,hw,e2⟩:=(hr.bit _).1 hb;have:=hmin w hw
  omega⟩
 rw [this];omega
theorem ZgW {α β:Type} [Inhabited α] [Inhabited β] {f:α->β} {l:List α} {i:Nat} (h:i<l.length):nth (l.map f) i=f (nth l i):=by
 rw [Zd (by simpa using h),Zd h];simp
theorem Zj6 {l m:List Int} (h:l.Perm m):l.sum=m.sum:=by
 induction h with
 | nil=>rfl
 | cons a _ ih=>rw [List.sum_cons,List.sum_cons,ih]
 | swap a b l=>simp only [List.sum_cons];omega
 | trans _ _ h1 h2=>exact h1.trans h2
theorem ZcK {x:Inst} {p:Pln} {c e:Int} (hx:InstOk x) (hn:x.orders.length<=4) (h6:x.types.length<=6) (h:Zo9 x (W2 x) p c e) :
  (e=24/\c=0/\p=Zf5)\/(e=0/\WI x p=0/\Xs (JR x p)=(c,0)/\QF Ut p.routes.length p.routes=p.routes/\ZpI p.unserved=p.unserved/\ ∀r∈p.routes,Zdq r):=by
 have hr:=ZbD hx hn;obtain ⟨hl,hcc⟩:=Zdi hn h6;have hs: ∀c∈W2 x,c.set<9223372036854775808:=fun c h=>(hcc c h).1;rcases h with ⟨g1,_⟩ | ⟨_,⟨c',gc,g2⟩,_⟩ | ⟨_,_,ys,g3,_,g5⟩
 ·omega
 ·rw [hr c' gc] at g2;cases g2
 ·obtain ⟨D,hD⟩: ∃D:Nat,D=20:=⟨20,rfl⟩;have hc:=ZlX hx hn g3 hr hs;rw [Zd4 hD] at g5;rcases g5 with ⟨_,rfl,rfl,rfl⟩ | ⟨g6,rfl,rfl,zs,hp,ha,rfl⟩
  ·exact .inl ⟨rfl,rfl,rfl⟩
  ·right
   have hz:=Zik x (W2 x);have hpk:=Zav hc hD x.orders.length 0 zSt _ 20 (by omega) (by omega) hz;obtain ⟨s',hg⟩:=Zk5 hc (D:=D) x.orders.length 0 zSt _ (by omega) hz;have hin:=Zi3 hc (D:=D) (by omega) x.orders.length 0 zSt _ 0 (by omega) hz g6;rw [Int.zero_add] at hin
   have hend:=Zas hc x.orders.length _ zSt 0 (Nat.le_refl _) (by rw [Nat.sub_self];exact hz) (fun T hT=>by
    rw [ZcY _ (Nat.le_refl _)];have ht:=hx.types.2 T hT;obtain ⟨⟨⟨⟨⟨⟨⟨⟨_,_⟩,h1⟩,_⟩,_⟩,_⟩,_⟩,_⟩,_⟩:=ht;simp only [rng,decide_eq_true_eq] at h1
    omega) _ hin
   simp only [mI] at hpk;rw [hpk] at hp ⊢;simp only at hp ⊢
   generalize gr x (W2 x) ys D x.orders.length 0 zSt (List.replicate x.orders.length (-1))=g at *
   obtain ⟨q1,q2,q3⟩:=hend;simp only at q1 q2 q3;rw [Int.zero_add] at q3
   have hmem: ∀c∈zs,c∈W2 x:=fun c hcm=>by
    rw [hp.mem_iff,QR] at hcm;obtain ⟨i,_,i1,i2,_,rfl⟩:=hcm;exact Zn (by have:=hg.rng i (by omega);omega)
   have hcol: ∀c∈zs,∃(k:Nat) (m:List Vis),k<x.types.length/\okV x k m=true/\c=UP x k (XA m) m:=fun c hcm=>ZiQ hx (hmem c hcm)
   have hrt: ∀c∈zs,ZS x c.route=0/\c.route.typ=c.typ/\(Va x c.route).1=c.price/\RightV x c.route.visits/\(∀i:Nat,hasO c.route.visits (i:Int)=c.set.toNat.testBit i)/\U6 c.route.visits=lo c:=fun c hcm=>by
    obtain ⟨k,m,h1,h2,rfl⟩:=hcol c hcm;have hR:RightV x m:=XD (r:=rtV (k:Int) m) (YK h2);refine ⟨YK h2,rfl,rfl,hR,fun i=> ?_,?_⟩
    ·show hasO m (i:Int)=((XA m:Nat):Int).toNat.testBit i
     rw [Int.toNat_natCast,Bool.eq_iff_iff,hR.bit,ZV]
    ·show U6 m=tzN ((XA m:Nat):Int).toNat
     rw [Int.toNat_natCast,ZtI hx hn hR]
   have cntr: ∀i,i<x.orders.length->Z5 (zs.map (·.route)) i=if 0<=nth g i then 1 else 0:=fun i hi=>by
    have e:(zs.map (·.route)).countP (fun r=>hasO r.visits (i:Int))=zs.countP fun c=>c.set.toNat.testBit i:=by
     rw [List.countP_map]
     exact List.countP_congr fun c hcm=>by simp only [Function.comp,(hrt c hcm).2.2.2.2.1 i]
    rw [Z5,e,hp.countP_eq,ZqG hc hg hi]
    split<;>rfl
   have cntu: ∀i,i<x.orders.length->X4 (UA x g x.orders.length 0) i=if nth g i<0/\(nth x.orders i).off=false then 1 else 0:=fun i hi=>by
    rw [X4,Zr4 hi]
    split<;>rfl
   have cntt: ∀t,t<x.types.length->WZ (zs.map (·.route)) t<=(nth x.types t).count:=fun t ht=>by
    have e:(zs.map (·.route)).countP (fun r=>decide (r.typ=(t:Int)))=zs.countP fun c=>decide (c.typ=(t:Int)):=by
     rw [List.countP_map]
     exact List.countP_congr fun c hcm=>by simp only [Function.comp,(hrt c hcm).2.1]
    have h2:=ZlH hc hg (t:Int) x.orders.length 0 (by omega);rw [Nat.zero_add,usdI,Nat.add_zero] at h2;rw [WZ,e,hp.countP_eq,h2];exact q1 t ht
   have hoffg: ∀i,i<x.orders.length->0<=nth g i->(nth x.orders i).off=false:=fun i hi h0=>by
    have hr:=hg.rng i hi;exact ((hc.set (Zn (l:=W2 x) (i:=(nth g i).toNat) (by omega))).2.2.2 i (hg.own i hi h0)).2
   have hchk:WI x ⟨false,zs.map (·.route),false,UA x g x.orders.length 0⟩=0:=by
    have c0:ZcC x (zs.map (·.route))=0:=ZeG.2 fun r hr=>by
     obtain ⟨c,hcm,rfl⟩:=List.mem_map.1 hr;exact (hrt c hcm).1
    have c1:JX x (UA x g x.orders.length 0)=true:=by
     rw [JX,List.all_eq_true];intro u hu;obtain ⟨i,_,i1,_,_,rfl⟩:=(Zbk _ _).1 hu;simp;omega
    have c2:UY x ⟨false,zs.map (·.route),false,UA x g x.orders.length 0⟩=false:=by
     rw [UY,List.any_eq_false];intro i hi;have hi:=List.mem_range.1 hi;simp only [Znf,cntr i hi,cntu i hi,decide_eq_true_eq]
     split<;>split<;>omega
    have c3:VF x ⟨false,zs.map (·.route),false,UA x g x.orders.length 0⟩=false:=by
     rw [VF,List.any_eq_false];intro t ht;have:=cntt t (List.mem_range.1 ht);simp only [decide_eq_true_eq];omega
    have c4:V3 x ⟨false,zs.map (·.route),false,UA x g x.orders.length 0⟩=false:=by
     rw [V3,List.any_eq_false];intro i hi;have hi:=List.mem_range.1 hi;simp only [cntu i hi,Bool.and_eq_true,decide_eq_true_eq];rintro ⟨h1,h2⟩;rw [if_neg fun e=>by rw [h1] at e;cases e.2] at h2;omega
    have c5:ZaS x ⟨false,zs.map (·.route),false,UA x g x.orders.length 0⟩=false:=by
     rw [ZaS,List.any_eq_false];intro i hi;have hi:=List.mem_range.1 hi;simp only [Znf,cntr i hi,cntu i hi,Bool.and_eq_true,Bool.or_eq_true,Bool.not_eq_true',decide_eq_true_eq];rintro ⟨h1,h2⟩
     by_cases h0:0<=nth g i
     ·rw [if_pos h0,if_neg fun e=>by omega] at h2;omega
     ·rw [if_neg h0,if_pos ⟨by omega,h1⟩] at h2;rcases q2 i (by omega) hi with h | h | h
      ·rw [h1] at h;cases h
      ·omega
      ·omega
    have n1: ¬JX x (UA x g x.orders.length 0)=false:=by rw [c1];simp
    simp only [WI,c0,c2,c3,c4,c5];rw [if_neg (by simp),if_neg n1]
    rfl
   obtain ⟨hpp,hps⟩:=Zb4 hx hn hchk;have hfit:=(Zah hx hn hchk).1
   have hsum:(Xs (JR x ⟨false,zs.map (·.route),false,UA x g x.orders.length 0⟩)).1=Lx x ys D zSt:=by
    rw [hps,q3,<- Zlh hc hg x.orders.length 0 (by omega)]
    congr 1
    simp only [List.map_map];rw [show zs.map ((fun r=>(Va x r).1)∘fun c=>c.route)=zs.map (·.price) from List.map_congr_left fun c hcm=>(hrt c hcm).2.2.1];exact Zj6 (hp.map _)
   refine ⟨trivial,hchk,Prod.ext hsum hfit,?_,?_,fun r hr=> ?_⟩
   ·refine Zhu (fun a b hab hb=> ?_) _ (Nat.le_refl _);simp only [List.length_map] at hb;rw [ZgW hb,ZgW (show a<zs.length by omega)];have h1:=List.pairwise_iff_getElem.1 ha a b (by omega) hb hab;rw [ZdQ,<- Zd hb,<- Zd (show a<zs.length by omega)] at h1;obtain ⟨_,a1,_,_,_,a2⟩:=hrt _ (Zn (show a<zs.length by omega));obtain ⟨_,b1,_,_,_,b2⟩:=hrt _ (Zn hb);rw [<- a1,<- b1,<- a2,<- b2] at h1;simp only [Ut,Bool.or_eq_false_iff,Bool.and_eq_false_iff,decide_eq_false_iff_not];omega
   ·exact List.mergeSort_of_pairwise ((Zg1 (x:=x) (g:=g) x.orders.length 0).imp fun {a b} h=>by simp;omega)
   ·obtain ⟨c,hcm,rfl⟩:=List.mem_map.1 hr;exact (hcc c (hmem c hcm)).2
theorem ZeY (haw:PC 7 [] (.bool true)) (x:Inst) (hw:x.wf 1048576) :
  PC 5 [.p (ZT x)] (.bool true):=by
 have hal:x.apart.length<=1048576:=hw.2.2.2.2.2.1;have hbl:x.before.length<=1048576:=hw.2.2.2.2.2.2.2.1;refine YR [] Tryz.func5 rfl ZEU ?_;simp (disch:=omega) only [Tryz.f5,go_sem,seval];refine Zsn (JF x hw) fun r hr=> ?_
 cases r with
 | false =>
  simp (disch:=omega) only [Bool.not_false,go_sem,seval];refine (haw).use ?_;simp (disch:=omega) only [go_sem,seval]
 | true =>
  simp (disch:=omega) only [Bool.not_true,go_sem,seval];obtain ⟨h4,h2,hx⟩:=hr.1 rfl;refine Zgl (Zgd x hx h4 (by omega) hbl hal) fun p c e hP=> ?_;rcases ZcK hx h4 (by omega) hP with ⟨rfl,rfl,rfl⟩ | ⟨rfl,hk,hwg,hs1,hs2,hb⟩
  ·simp (disch:=omega) only [Zf5,eq_self,decide_true,List.length_nil,List.map_nil,go_sem,seval];refine (haw).use ?_;simp (disch:=omega) only [go_sem,seval]
  ·have hlen:=(Zah hx h4 hk).2;have hv: ∀r∈p.routes,r.visits.length<=1048576:=fun r hr=>(hb r hr).1
   have hpr:ZiI x p=(c,0):=by rw [ZiI,if_pos hk,hwg]
   simp (disch:=omega) only [go_sem,seval];refine ZcP (Zem x p hx (by omega) (by omega) hb) ?_;rw [hpr];simp (disch:=omega) only [go_sem,seval];refine Zh mixed (by kernel_rfl) (by kernel_rfl) ?_;simp (disch:=omega) only [eq_self,decide_true,go_sem,seval];refine Zk (ZhO x p hx (by omega) (by omega) hb) ?_;simp (disch:=omega) only [go_sem,seval];simp (disch:=omega) only [hk,eq_self,decide_true,go_sem,seval];refine Zk (Zob p (by omega) (by omega) hv) ?_;simp (disch:=omega) only [go_sem,seval];have hsm:Zbt (ZkC p) p=true:=Zh5 (by simp only [ZkC,hs1]) (fun k _=>by simp only [ZkC,hs1];exact Zgb.2 ⟨rfl,rfl,rfl,rfl⟩) (by simp only [ZkC,hs2])
   have hsr:(ZkC p).routes=p.routes:=hs1;have hsu:(ZkC p).unserved=p.unserved:=hs2;refine Zk (Zmv (ZkC p) p ⟨by rw [hsr];omega,by rw [hsu];omega,by rw [hsr];exact hb⟩ ⟨by omega,by omega,hb⟩) ?_;simp (disch:=omega) only [go_sem,seval];simp (disch:=omega) only [hsm,go_sem,seval];refine Zk (haw) ?_;simp (disch:=omega) only [go_sem,seval];rw [hsm];rfl
end Go.Proofs.YthmplgaldjpgiaaGreatDoor.K
