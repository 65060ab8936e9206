/- Declarations that the closing texts need, part 14: joined by tools/slim.py. -/
import Derived.Test.YthmplgaldjpgiaaGreatDoorZ13
set_option linter.unusedVariables false
set_option linter.unusedSimpArgs false
namespace Go.Proofs.YthmplgaldjpgiaaGreatDoor.K
open Go Go.AM Go.Proofs
def onB (x:Inst) (l:List Vis) (n i:Nat):Bool:=(l.take n).foldl (fun on v=>if v.order=(i:Int) then !v.drp else on) (decide ((nth x.orders i).pick.place<0))
theorem ZiS {x:Inst} {l:List Vis} {i:Nat} :onB x l 0 i=decide ((nth x.orders i).pick.place<0):=by simp [onB]
theorem K7 {x:Inst} {l:List Vis} {n i:Nat} (h:n<l.length):onB x l (n+1) i=if (nth l n).order=(i:Int) then !(nth l n).drp else onB x l n i:=by
 rw [onB,List.take_succ_eq_append_getElem h,List.foldl_append,Zd h];rfl
structure SqOk (x:Inst) (l:List Vis):Prop where
 ne:l≠ []
 inr:Inr x l
 nd:l.Nodup
 pair: ∀v∈l,pairB x.orders l v=true
theorem Wg {x:Inst} {l:List Vis} (h:Xm x l=0):SqOk x l:=by
 unfold Xm at h
 split at h
 ·simp at h
 ·rename_i h1
  split at h
  ·simp at h
  ·split at h
   ·simp at h
   ·rename_i h3
    split at h
    ·simp at h
    ·rename_i h4;refine ⟨fun e=>h1 (.inl (by simp [e])),fun v hv=> ?_,J8.1 (by simpa using h3),fun v hv=> ?_⟩
     ·have h5: ¬(l.any (ZbN x))=true:=fun e=>h1 (.inr e)
      have h6:ZbN x v=false:=by
       cases hb:ZbN x v with
       | false=>rfl
       | true=>exact absurd (List.any_eq_true.2 ⟨v,hv,hb⟩) h5
      simpa [ZbN] using h6
     ·have h5:l.all (pairB x.orders l)=true:=by simpa using h4
      exact List.all_eq_true.1 h5 v hv
structure OwnV (x:Inst) (l:List Vis) (i:Nat):Prop where
 pick:0<=(nth x.orders i).pick.place->(⟨i,false⟩:Vis)∈l
 drp:0<=(nth x.orders i).drp.place->(⟨i,true⟩:Vis)∈l
 both:0<=(nth x.orders i).pick.place->0<=(nth x.orders i).drp.place->vIx l ⟨i,false⟩<vIx l ⟨i,true⟩
 isP:(⟨i,false⟩:Vis)∈l->0<=(nth x.orders i).pick.place
 isD:(⟨i,true⟩:Vis)∈l->0<=(nth x.orders i).drp.place
theorem SqOk.own {x:Inst} {l:List Vis} (h:SqOk x l) {i:Nat} (hi: ∃v∈l,v.order=(i:Int)):OwnV x l i:=by
 obtain ⟨v0,hv0,ho⟩:=hi
 have key: ∀v∈l,v.order=(i:Int)->v∈Z9 x.orders i/\Za4 l (-1) (Z9 x.orders i)=true:=fun v hv hvo=>by
  have:=h.pair v hv;simp only [pairB,hvo,Int.toNat_natCast,Bool.and_eq_true,decide_eq_true_eq] at this;exact ⟨Xl.1 this.1,this.2⟩
 obtain ⟨_,hasc⟩:=key v0 hv0 ho;have mem: ∀b:Bool,(⟨i,b⟩:Vis)∈l->(⟨i,b⟩:Vis)∈Z9 x.orders i:=fun b hb=>(key _ hb rfl).1
 have hp:(⟨i,false⟩:Vis)∈Z9 x.orders i->0<=(nth x.orders i).pick.place:=fun hm=>by
  unfold Z9 at hm;rcases List.mem_append.1 hm with hm | hm
  ·split at hm
   ·assumption
   ·simp at hm
  ·split at hm<;>simp at hm
 have hd:(⟨i,true⟩:Vis)∈Z9 x.orders i->0<=(nth x.orders i).drp.place:=fun hm=>by
  unfold Z9 at hm;rcases List.mem_append.1 hm with hm | hm
  ·split at hm<;>simp at hm
  ·split at hm
   ·assumption
   ·simp at hm
 have m1: ∀v,-1<vIx l v->v∈l:=fun v hv=>Xl.1 (by omega);unfold Z9 at hasc
 by_cases c1:0<=(nth x.orders i).pick.place<;>by_cases c2:0<=(nth x.orders i).drp.place
 ·simp only [c1,c2,if_true,List.cons_append,List.nil_append,Za4,Bool.and_true,Bool.and_eq_true,decide_eq_true_eq] at hasc;exact ⟨fun _=>m1 _ hasc.1,fun _=>m1 _ (by omega),fun _ _=>hasc.2,fun _=>c1,fun _=>c2⟩
 ·simp only [c1,c2,if_true,if_false,List.append_nil,Za4,Bool.and_true,decide_eq_true_eq] at hasc;exact ⟨fun _=>m1 _ hasc,fun h=>absurd h c2,fun _ h=>absurd h c2,fun _=>c1,fun hm=>hd (mem _ hm)⟩
 ·simp only [c1,c2,if_true,if_false,List.nil_append,Za4,Bool.and_true,decide_eq_true_eq] at hasc;exact ⟨fun h=>absurd h c1,fun _=>m1 _ hasc,fun h=>absurd h c1,fun hm=>hp (mem _ hm),fun _=>c2⟩
 ·exact ⟨fun h=>absurd h c1,fun h=>absurd h c2,fun h=>absurd h c1,fun hm=>hp (mem _ hm),fun hm=>hd (mem _ hm)⟩
theorem WU {l:List Vis} (hn:l.Nodup) {v:Vis} {n:Nat} :v∈l.take n↔0<=vIx l v/\vIx l v<(n:Int):=by
 constructor
 ·intro h;obtain ⟨j,h1,h2,rfl⟩:=Uf h;rw [Vd hn h2];omega
 ·intro ⟨h1,h2⟩;obtain ⟨h3,h4⟩:=Zaq h1;rw [<- h4];exact Qu (by omega) h3
theorem ZlY {x:Inst} {l:List Vis} (h:SqOk x l) (i:Nat): ∀n,n<=l.length->onB x l n i=if (⟨i,true⟩:Vis)∈l.take n then false else if (⟨i,false⟩:Vis)∈l.take n then true else decide ((nth x.orders i).pick.place<0)
 | 0,_=>by simp [onB]
 | n+1,hn=>by
  have hk:n<l.length:=by omega
  have hat:=Vd h.nd hk;rw [K7 hk,ZlY h i n (by omega)]
  by_cases c:(nth l n).order=(i:Int)
  ·rw [if_pos c];have ho:=h.own (i:=i) ⟨nth l n,ZC hk,c⟩
   cases hd:(nth l n).drp with
   | true =>
    have hv:nth l n=⟨i,true⟩:=by rw [<- c,<- hd]
    rw [hv] at hat;have:(⟨i,true⟩:Vis)∈l.take (n+1):=(WU h.nd).2 (by omega);rw [if_pos this];rfl
   | false =>
    have hv:nth l n=⟨i,false⟩:=by rw [<- c,<- hd]
    rw [hv] at hat;have h1:(⟨i,false⟩:Vis)∈l.take (n+1):=(WU h.nd).2 (by omega)
    have h2: ¬(⟨i,true⟩:Vis)∈l.take (n+1):=fun hm=>by
     have h3:=List.mem_of_mem_take hm;have h4:=(WU h.nd).1 hm;have h5:=ho.both (ho.isP (List.mem_of_mem_take h1)) (ho.isD h3);omega
    rw [if_neg h2,if_pos h1];rfl
  ·rw [if_neg c]
   have e: ∀b:Bool,((⟨i,b⟩:Vis)∈l.take (n+1))=((⟨i,b⟩:Vis)∈l.take n):=fun b=>by
    rw [List.take_succ_eq_append_getElem hk,List.mem_append,<- Zd hk];refine propext ⟨fun hm=>hm.resolve_right fun hm=> ?_,.inl⟩;simp at hm;exact c (by rw [<- hm])
   simp only [e]
theorem ZqB {x:Inst} {l:List Vis} (h:SqOk x l) {k i:Nat} (hk:k<l.length) (hi:(nth l k).order=(i:Int)):onB x l k i=(nth l k).drp:=by
 have hat:=Vd h.nd hk;have ho:=h.own (i:=i) ⟨nth l k,ZC hk,hi⟩;have hm:=ZC hk;rw [ZlY h i k (by omega)]
 cases hd:(nth l k).drp with
 | true =>
  have hv:nth l k=⟨i,true⟩:=by rw [<- hi,<- hd]
  rw [hv] at hat hm
  have h1: ¬(⟨i,true⟩:Vis)∈l.take k:=fun hm=>by have:=(WU h.nd).1 hm;omega
  rw [if_neg h1]
  by_cases c:0<=(nth x.orders i).pick.place
  ·have h2:=ho.both c (ho.isD hm);have h3:(⟨i,false⟩:Vis)∈l.take k:=(WU h.nd).2 ⟨Xl.2 (ho.pick c),by omega⟩;rw [if_pos h3]
  ·have:(nth x.orders i).pick.place<0:=by omega
   split<;>simp [this]
 | false =>
  have hv:nth l k=⟨i,false⟩:=by rw [<- hi,<- hd]
  rw [hv] at hat hm;have hp:=ho.isP hm
  have h1: ¬(⟨i,false⟩:Vis)∈l.take k:=fun hm=>by have:=(WU h.nd).1 hm;omega
  have h2: ¬(nth x.orders i).pick.place<0:=by omega
  rw [if_neg h1]
  split<;>simp [h2]
theorem ZmI {f g:Nat->Int} {i:Nat} (h: ∀q,q≠i->f q=g q): ∀n,i<n->((List.range n).map f).sum=((List.range n).map g).sum+(f i-g i):=by
 have same: ∀n,n<=i->((List.range n).map f).sum=((List.range n).map g).sum:=fun n hn=>by
  congr 1
  refine List.map_congr_left fun q hq=>h q ?_;have:=List.mem_range.1 hq;omega
 intro n
 induction n with
 | zero=>intro h;omega
 | succ n ih =>
  intro hi;simp only [List.range_succ,List.map_append,List.map_cons,List.map_nil,List.sum_append,List.sum_cons,List.sum_nil]
  by_cases hn:i=n
  ·subst hn;rw [same i (Nat.le_refl _)];omega
  ·rw [ih (by omega),h n (by omega)];omega
theorem Zhm {f:Nat->Int} {b:Int} (hb:0<=b) (h: ∀q,0<=f q/\f q<=b): ∀n:Nat,0<=((List.range n).map f).sum/\((List.range n).map f).sum<=b*n
 | 0=>by simp
 | n+1=>by
  have ih:=Zhm hb h n;have:=h n;simp only [List.range_succ,List.map_append,List.map_cons,List.map_nil,List.sum_append,List.sum_cons,List.sum_nil];rw [Int.natCast_add,Int.mul_add];omega
theorem Uj {p:Nat->Bool} {f:Nat->Int} : ∀l:List Nat,((l.filter p).map f).sum=(l.map fun i=>if p i=true then f i else 0).sum
 | []=>rfl
 | a::l=>by
  rw [List.filter_cons,List.map_cons,List.sum_cons]
  by_cases h:p a=true
  ·rw [if_pos h,List.map_cons,List.sum_cons,Uj l,if_pos h]
  ·rw [if_neg h,Uj l,if_neg h];omega
def ZhN (x:Inst) (l:List Vis) (n j:Nat):Int:=((List.range x.orders.length).map fun i=>if (onB x l n i&&hasO l i)=true then nth (nth x.orders i).load j else 0).sum
theorem Zb7 {x:Inst} {l:List Vis} (h:SqOk x l) {k j:Nat} (hk:k<l.length):ZhN x l (k+1) j=if (nth l k).drp=true then ZhN x l k j-nth (nth x.orders (nth l k).order.toNat).load j else ZhN x l k j+nth (nth x.orders (nth l k).order.toNat).load j:=by
 obtain ⟨v1,v2⟩:=h.inr _ (ZC hk);obtain ⟨i,hi⟩: ∃i:Nat,(nth l k).order=(i:Int):=⟨(nth l k).order.toNat,by omega⟩;have hh:hasO l (i:Int)=true:=ZV.2 ⟨_,ZC hk,hi⟩;have h1:=ZqB h hk hi
 have h2:onB x l (k+1) i= !(nth l k).drp:=by rw [K7 hk,if_pos hi]
 unfold ZhN
 rw [ZmI (f:=fun i=>if (onB x l (k+1) i&&hasO l i)=true then nth (nth x.orders i).load j else 0) (g:=fun i=>if (onB x l k i&&hasO l i)=true then nth (nth x.orders i).load j else 0) (i:=i) (fun q hq=>by
  have:onB x l (k+1) q=onB x l k q:=by rw [K7 hk,if_neg (by omega)]
  simp only [this]) x.orders.length (by omega)]
 rw [h1,h2,hh,hi,Int.toNat_natCast]
 cases (nth l k).drp
 ·simp
 ·simp;omega
def Qa (x:Inst) (l:List Vis) (n:Nat):List Int:=(List.range (dimsOf x.types).toNat).map fun j=>ZhN x l n j
def Zir (a b:List Int):List Int:=(List.range a.length).map fun j=>nth a j+nth b j
def Zvp (a b:List Int):List Int:=(List.range a.length).map fun j=>nth a j-nth b j
theorem Qx {x:Inst} {l:List Vis} {n:Nat} :(Qa x l n).length=(dimsOf x.types).toNat:=by simp [Qa]
theorem WL {f:Nat->Int} {n j:Nat} (h:j<n):nth ((List.range n).map f) j=f j:=by
 rw [Zd (by simpa using h)];simp
theorem Zga {x:Inst} {l:List Vis} (h:SqOk x l) {k:Nat} (hk:k<l.length):Qa x l (k+1)=if (nth l k).drp=true then Zvp (Qa x l k) (nth x.orders (nth l k).order.toNat).load else Zir (Qa x l k) (nth x.orders (nth l k).order.toNat).load:=by
 have key: ∀g:Nat->Int,(∀j,j<(dimsOf x.types).toNat->ZhN x l (k+1) j=g j)->Qa x l (k+1)=(List.range (dimsOf x.types).toNat).map g:=fun g hg =>
  List.map_congr_left fun j hj=>hg j (List.mem_range.1 hj)
 split
 ·rename_i hd;unfold Zvp;rw [Qx];refine key _ fun j hj=> ?_;rw [Zb7 h hk,if_pos hd,Qa,WL hj]
 ·rename_i hd;unfold Zir;rw [Qx];refine key _ fun j hj=> ?_;rw [Zb7 h hk,if_neg hd,Qa,WL hj]
set_option maxRecDepth 8000
def Zjc {α:Type} [Inhabited α] (l:List α) (j:Nat):List α:=(l.set j (nth l (j-1))).set (j-1) (nth l j)
theorem Zd8 {α:Type} [Inhabited α] {l:List α} {j:Nat} :(Zjc l j).length=l.length:=by simp [Zjc]
theorem Zbg {α:Type} [Inhabited α] {l:List α} {j:Nat} (h:j<l.length):(Zjc l j).Perm l:=by
 have h1:j-1<l.length:=by omega
 rw [Zjc,Zd h,Zd h1];exact List.set_set_perm h h1
def dnF {α:Type} [Inhabited α] (lt:α->α->Bool):Nat->List α->List α
 | 0,m=>m
 | j+1,m=>if lt (nth m (j+1)) (nth m j)=true then dnF lt j (Zjc m (j+1)) else m
def QF {α:Type} [Inhabited α] (lt:α->α->Bool):Nat->List α->List α
 | 0,l=>l
 | i+1,l=>dnF lt i (QF lt i l)
theorem Zee {α:Type} [Inhabited α] {lt:α->α->Bool} : ∀(j:Nat) (m:List α),j<m.length->(dnF lt j m).Perm m
 | 0,_,_=> .refl _
 | j+1,m,h=>by
  rw [dnF]
  split
  ·exact (Zee j _ (by rw [Zd8];omega)).trans (Zbg h)
  ·exact .refl _
theorem Jp {α:Type} [Inhabited α] {lt:α->α->Bool} {l:List α} : ∀i,i<=l.length->(QF lt i l).Perm l
 | 0,_=> .refl _
 | i+1,h=>by
  have ih:=Jp (lt:=lt) (l:=l) i (by omega);exact (Zee i _ (by rw [ih.length_eq];omega)).trans ih
theorem ZeA {α:Type} [Inhabited α] {lt:α->α->Bool} {l:List α} {i:Nat} (h:i<=l.length):(QF lt i l).length=l.length:=(Jp i h).length_eq
theorem Zhu {α:Type} [Inhabited α] {lt:α->α->Bool} {l:List α} (hs: ∀a b,a<b->b<l.length->lt (nth l b) (nth l a)=false): ∀i,i<=l.length->QF lt i l=l
 | 0,_=>rfl
 | i+1,h=>by
  rw [QF,Zhu hs i (by omega)]
  cases i with
  | zero=>rfl
  | succ i=>rw [dnF,if_neg (by rw [hs i (i+1) (by omega) (by omega)];simp)]
def U6 (l:List Vis):Int:=match l with
 | []=> -1
 | v::m=>m.foldl (fun n w=>if w.order<n then w.order else n) v.order
def Ut (a b:Rte):Bool:=decide (a.typ<b.typ)||(decide (a.typ=b.typ)&&decide (U6 a.visits<U6 b.visits))
set_option maxHeartbeats 8000000
def ZcV (l:List Pt) (t:Int) (i:Nat):Bool:=decide ((nth l i).t<=t)&&decide (t<(nth l (i+1)).t)
def ZjZ (p q:Pt) (t:Int):Int:=p.a+((t-p.t)*(q.a-p.a)+q.t-p.t-1) / (q.t-p.t)
def ZbK (l:List Pt) (t:Int):Int:=match (List.range (l.length-1)).find? (ZcV l t) with
 | some i=>ZjZ (nth l i) (nth l (i+1)) t
 | none=>if (nth l 0).t<t then t+(nth l (l.length-1)).a-(nth l (l.length-1)).t else t+(nth l 0).a-(nth l 0).t
theorem ZgI {l:List Pt} {t:Int} {i:Nat} (hi:i+1<l.length) (hno: ∀j,j<i->ZcV l t j=false) (h:ZcV l t i=true):ZbK l t=ZjZ (nth l i) (nth l (i+1)) t:=by
 have:(List.range (l.length-1)).find? (ZcV l t)=some i:=by
  rw [List.find?_eq_some_iff_getElem];refine ⟨h,i,by simp;omega,by simp,fun j hj=> ?_⟩;simp [hno j hj]
 rw [ZbK,this]
theorem Zc7 {l:List Pt} {t:Int} (hno: ∀j,j+1<l.length->ZcV l t j=false):ZbK l t=if (nth l 0).t<t then t+(nth l (l.length-1)).a-(nth l (l.length-1)).t else t+(nth l 0).a-(nth l 0).t:=by
 have:(List.range (l.length-1)).find? (ZcV l t)=none:=by
  rw [List.find?_eq_none];intro j hj;simp at hj;rw [hno j (by omega)];simp
 rw [ZbK,this]
theorem Zex {p q:Pt} {t:Int} (h1:p.t<=t) (h2:t<q.t) (hp:0<=p.t) (hq:q.t<=4096) (ha:p.a<=q.a) (hpa:0<=p.a) (hqa:q.a<=8192):0<=(t-p.t)*(q.a-p.a)/\(t-p.t)*(q.a-p.a)<=33554432:=by
 refine ⟨Int.mul_nonneg (by omega) (by omega),?_⟩;have:(t-p.t)*(q.a-p.a)<=4096*8192:=Int.mul_le_mul (by omega) (by omega) (by omega) (by omega);omega
theorem Zn {α:Type} [Inhabited α] {l:List α} {i:Nat} (h:i<l.length):nth l i∈l:=by rw [Zd h];exact List.getElem_mem h
def ZAi (a:Arc):Prop:=Y4 a.travel/\a.slow.length<=16/\ ∀p∈a.slow,0<=p.t/\p.t<=4096/\0<=p.a/\p.a<=4096
def JZ (l:List Pt) (t:Int) (k:Nat):Int:=(l.take k).foldl (fun s p=>if p.t<=t then s+p.a else s) 0
def Zpt (a:Arc) (t:Int):Int:=ZbK a.travel t+JZ a.slow t a.slow.length
theorem KM {l:List Pt} {t:Int} {k:Nat} (h:k<l.length):JZ l t (k+1)=if (nth l k).t<=t then JZ l t k+(nth l k).a else JZ l t k:=by
 rw [JZ,List.take_succ_eq_append_getElem h,List.foldl_append,Zd h];rfl
theorem VQ {l:List Pt} {t:Int} (hl: ∀p∈l,0<=p.a/\p.a<=4096): ∀k,k<=l.length->0<=JZ l t k/\JZ l t k<=4096*k
 | 0,_=>by simp [JZ]
 | k+1,h=>by
  have ih:=VQ (t:=t) hl k (by omega);have hp:=hl _ (Zn (show k<l.length by omega));rw [KM (by omega)]
  split<;>omega
theorem Zd6 {l:List Pt} {t:Int} (hl:Y4 l) (ht:0<=t/\t<=1073741824):0<=ZbK l t/\ZbK l t<=1107304448:=by
 obtain ⟨⟨hl1,hl2⟩,hpt⟩:=hl;unfold ZbK
 split
 ·rename_i i hi;have hm:=List.mem_of_find?_eq_some hi;have hs:=List.find?_some hi;simp at hm;simp only [ZcV,Bool.and_eq_true,decide_eq_true_eq] at hs;obtain ⟨⟨p1,p2,p3,p4⟩,_⟩:=hpt i (by omega);obtain ⟨⟨q1,q2,q3,q4⟩,q5⟩:=hpt (i+1) (by omega);obtain ⟨r1,r2⟩:=q5 (by omega);rw [Nat.add_sub_cancel] at r1 r2;obtain ⟨s1,s2⟩:=Zex hs.1 hs.2 p1 q2 r2 (by omega) (by omega);have d1:0<=((t-(nth l i).t)*((nth l (i+1)).a-(nth l i).a)+(nth l (i+1)).t-(nth l i).t-1) / ((nth l (i+1)).t-(nth l i).t):=Int.ediv_nonneg (by omega) (by omega);have d2:((t-(nth l i).t)*((nth l (i+1)).a-(nth l i).a)+(nth l (i+1)).t-(nth l i).t-1) / ((nth l (i+1)).t-(nth l i).t)<=33558528:=Int.le_trans (Int.ediv_le_self _ (by omega)) (by omega)
  unfold ZjZ;omega
 ·obtain ⟨⟨p1,p2,p3,p4⟩,_⟩:=hpt 0 (by omega);obtain ⟨⟨q1,q2,q3,q4⟩,_⟩:=hpt (l.length-1) (by omega)
  split<;>omega
theorem Jt {β:Type} [Inhabited β] {a b:List β} (hl:a.length=b.length) (h: ∀j,j<a.length->nth a j=nth b j):a=b:=by
 apply List.ext_getElem hl;intro i h1 h2;have:=h i h1;rwa [Zd h1,Zd h2] at this
theorem Zji (a b:List Int) (c d:Bool) (ha:a.length<=1048576) (hb:b.length<=1048576):PC 34 [.p (.list c (a.map eI)),.p (.list d (b.map eI))] (.bool (decide (a=b))):=by
 refine Za Tryz.func34 rfl ZA6 ?_;simp (disch:=omega) only [Tryz.f34,go_sem,seval];refine cD ?_ ?_<;>intro h1<;>simp (disch:=omega) only [Sh.out h1,go_sem,seval]
 ·rw [decide_eq_false fun e=>h1 (by rw [e])]
 ·have hl:a.length=b.length:=by omega
  refine Zg [0,1,12] (fun k:Nat=> [(13,.p (.int .i64 k))]) (fun _=> []) (fun k=>k<=a.length/\ ∀j,j<k->nth a j=nth b j) (fun k=>a.length-k) 0 (by simp) (Weak.mk ?_) ?_
  ·simp (disch:=omega) only [go_sem,seval]
  ·rintro k ⟨hk,hno⟩;simp (disch:=omega) only [go_sem,seval];refine cD ?_ ?_<;>intro h2<;>simp (disch:=omega) only [Sh.out h2,go_sem,seval]
   ·have hk2:k<a.length:=by omega
    refine Zh mixed (by kernel_rfl) (by kernel_rfl) ?_;simp (disch:=omega) only [go_sem,seval];refine cD ?_ ?_<;>intro h3<;>simp (disch:=omega) only [Sh.out h3,go_sem,seval]
    ·rw [decide_eq_false fun e=>h3 (by rw [e])]
    ·exact ⟨k+1,⟨by omega,Zl.2 ⟨hno,by omega⟩⟩,by omega,wk⟩
   ·rw [decide_eq_true (Jt hl fun j hj=>hno j (by omega))]
theorem Zjn (a b:List Bool) (c d:Bool) (ha:a.length<=1048576) (hb:b.length<=1048576):PC 66 [.p (.list c (a.map eB)),.p (.list d (b.map eB))] (.bool (decide (a=b))):=by
 refine Za Tryz.func66 rfl ZyM ?_;simp (disch:=omega) only [Tryz.f66,go_sem,seval];refine cD ?_ ?_<;>intro h1<;>simp (disch:=omega) only [Sh.out h1,go_sem,seval]
 ·rw [decide_eq_false fun e=>h1 (by rw [e])]
 ·have hl:a.length=b.length:=by omega
  refine Zg [0,1,12] (fun k:Nat=> [(13,.p (.int .i64 k))]) (fun _=> []) (fun k=>k<=a.length/\ ∀j,j<k->nth a j=nth b j) (fun k=>a.length-k) 0 (by simp) (Weak.mk ?_) ?_
  ·simp (disch:=omega) only [go_sem,seval]
  ·rintro k ⟨hk,hno⟩;simp (disch:=omega) only [go_sem,seval];refine cD ?_ ?_<;>intro h2<;>simp (disch:=omega) only [Sh.out h2,go_sem,seval]
   ·have hk2:k<a.length:=by omega
    refine Zh mixed (by kernel_rfl) (by kernel_rfl) ?_;simp (disch:=omega) only [go_sem,seval];refine cD ?_ ?_<;>intro h3<;>simp (disch:=omega) only [Sh.out h3,go_sem,seval]
    ·rw [decide_eq_false fun e=>by rw [e] at h3;simp at h3]
    ·exact ⟨k+1,⟨by omega,Zl.2 ⟨hno,by simpa using h3⟩⟩,by omega,wk⟩
   ·rw [decide_eq_true (Jt hl fun j hj=>hno j (by omega))]
theorem ZjB (a b:List Vis) (c d:Bool) (ha:a.length<=1048576) (hb:b.length<=1048576):PC 67 [.p (.list c (a.map Xi)),.p (.list d (b.map Xi))] (.bool (decide (a=b))):=by
 refine Za Tryz.func67 rfl ZyI ?_;simp (disch:=omega) only [Tryz.f67,go_sem,seval];refine cD ?_ ?_<;>intro h1<;>simp (disch:=omega) only [Sh.out h1,go_sem,seval]
 ·rw [decide_eq_false fun e=>h1 (by rw [e])]
 ·have hl:a.length=b.length:=by omega
  refine Zg [0,1,12] (fun k:Nat=> [(13,.p (.int .i64 k))]) (fun _=> []) (fun k=>k<=a.length/\ ∀j,j<k->nth a j=nth b j) (fun k=>a.length-k) 0 (by simp) (Weak.mk ?_) ?_
  ·simp (disch:=omega) only [go_sem,seval]
  ·rintro k ⟨hk,hno⟩;simp (disch:=omega) only [go_sem,seval];refine cD ?_ ?_<;>intro h2<;>simp (disch:=omega) only [Sh.out h2,go_sem,seval]
   ·have hk2:k<a.length:=by omega
    refine Zh mixed (by kernel_rfl) (by kernel_rfl) ?_;simp (disch:=omega) only [go_sem,seval];refine cD ?_ ?_<;>intro h3<;>simp (disch:=omega) only [Sh.out h3,go_sem,seval]
    ·rw [decide_eq_false fun e=>by rw [e] at h3;simp at h3]
    ·exact ⟨k+1,⟨by omega,Zl.2 ⟨hno,Ks.2 (by simpa using h3)⟩⟩,by omega,wk⟩
   ·rw [decide_eq_true (Jt hl fun j hj=>hno j (by omega))]
def JH (a b:Rte):Bool:=decide (a.typ=b.typ)&&(decide (a.start=b.start)&&(decide (a.rests=b.rests)&&decide (a.visits=b.visits)))
theorem ZoI (a b:Rte) (ha:Zdq a) (hb:Zdq b):PC 33 [.p (eRte a),.p (eRte b)] (.bool (JH a b)):=by
 obtain ⟨a1,a2⟩:=ha;obtain ⟨b1,b2⟩:=hb;refine Za Tryz.func33 rfl ZBp ?_;simp (disch:=omega) only [Tryz.f33,go_sem,seval];unfold JH;refine gT ?_ ?_<;>intro h1<;>simp (disch:=omega) only [Sh.out h1,go_sem,seval];rw [decide_eq_true h1,Bool.true_and];refine gT ?_ ?_<;>intro h2<;>simp (disch:=omega) only [Sh.out h2,go_sem,seval];rw [decide_eq_true h2,Bool.true_and];refine (Zjn a.rests b.rests a.rests_c b.rests_c a2 b2).use ?_;simp (disch:=omega) only [go_sem,seval];refine gT ?_ ?_<;>intro h3<;>simp (disch:=omega) only [Sh.out h3,go_sem,seval]
 rw [decide_eq_true h3,Bool.true_and];refine (ZjB a.visits b.visits a.visits_c b.visits_c a1 b1).use ?_;simp (disch:=omega) only [go_sem,seval]
theorem Zkd (a b:List Rte) (c d:Bool) (ha:a.length<=1048576) (hb:b.length<=1048576) (h1: ∀r∈a,Zdq r) (h2: ∀r∈b,Zdq r) :
  PC 32 [.p (.list c (a.map eRte)),.p (.list d (b.map eRte)),.fn (.func 33) [] []] (.bool (decide (a.length=b.length)&&(List.range a.length).all fun k=>JH (nth a k) (nth b k))):=by
 refine Za Tryz.func32 rfl ZAI ?_;simp (disch:=omega) only [Tryz.f32,go_sem,seval];refine cD ?_ ?_<;>intro h3<;>simp (disch:=omega) only [Sh.out h3,go_sem,seval]
 ·rw [decide_eq_false fun e=>h3 (by rw [e]),Bool.false_and]
 ·have hl:a.length=b.length:=by omega
  rw [decide_eq_true hl,Bool.true_and];refine Zg [1,2,15,16] (fun k:Nat=> [(17,.p (.int .i64 k))]) (fun _=> []) (fun k=>k<=a.length/\ ∀j,j<k->JH (nth a j) (nth b j)=true) (fun k=>a.length-k) 0 (by simp) (Weak.mk ?_) ?_
  ·simp (disch:=omega) only [go_sem,seval]
  ·rintro k ⟨hk,hno⟩;simp (disch:=omega) only [go_sem,seval];refine cD ?_ ?_<;>intro h4<;>simp (disch:=omega) only [Sh.out h4,go_sem,seval]
   ·have hk2:k<a.length:=by omega
    refine (ZoI (nth a k) (nth b k) (h1 _ (Zn hk2)) (h2 _ (Zn (by omega)))).use ?_;simp (disch:=omega) only [go_sem,seval]
    cases hs:JH (nth a k) (nth b k) with
    | false =>
     rw [List.all_eq_false.2 ⟨k,List.mem_range.2 hk2,by rw [hs];simp⟩];simp (disch:=omega) only [hs,Bool.not_false,go_sem,seval]
    | true =>
     simp (disch:=omega) only [hs,Bool.not_true,Bool.false_eq_true,go_sem,seval];exact ⟨k+1,⟨by omega,Zl.2 ⟨hno,hs⟩⟩,by omega,wk⟩
   ·rw [List.all_eq_true.2 fun j hj=>hno j (by have:=List.mem_range.1 hj;omega)]
def Zbt (p q:Pln):Bool:=(decide (p.routes.length=q.routes.length)&&(List.range p.routes.length).all fun k=>JH (nth p.routes k) (nth q.routes k))&&decide (p.unserved=q.unserved)
theorem Zmv (p q:Pln) (hp:p.routes.length<=1048576/\p.unserved.length<=1048576/\ ∀r∈p.routes,Zdq r) (hq:q.routes.length<=1048576/\q.unserved.length<=1048576/\ ∀r∈q.routes,Zdq r) :
  PC 13 [.p (JB p),.p (JB q)] (.bool (Zbt p q)):=by
 refine Za Tryz.func13 rfl ZAx ?_;simp (disch:=omega) only [Tryz.f13,go_sem,seval];unfold Zbt;have ce:=Zkd p.routes q.routes p.routes_c q.routes_c hp.1 hq.1 hp.2.2 hq.2.2
 generalize (decide (p.routes.length=q.routes.length)&&(List.range p.routes.length).all fun k=>JH (nth p.routes k) (nth q.routes k))=e at *
 refine (ce).use ?_;simp (disch:=omega) only [go_sem,seval]
 cases e with
 | false=>simp (disch:=omega) only [Bool.false_and,go_sem,seval]
 | true =>
  rw [Bool.true_and];simp (disch:=omega) only [go_sem,seval];refine (Zji p.unserved q.unserved p.unserved_c q.unserved_c hp.2.1 hq.2.1).use ?_;simp (disch:=omega) only [go_sem,seval]
theorem Zgb {a b:Rte} :JH a b=true↔a.typ=b.typ/\a.start=b.start/\a.rests=b.rests/\a.visits=b.visits:=by
 simp [JH]
theorem Zx5 {p q:Pln} (h:(p.routes.length=q.routes.length/\(∀k,k<p.routes.length->JH (nth p.routes k) (nth q.routes k)=true)/\p.unserved=q.unserved)->False):Zbt p q=false:=by
 cases hs:Zbt p q with
 | false=>rfl
 | true =>
  simp only [Zbt,Bool.and_eq_true,decide_eq_true_eq,List.all_eq_true,List.mem_range] at hs;exact (h ⟨hs.1.1,hs.1.2,hs.2⟩).elim
theorem Zh5 {p q:Pln} (h1:p.routes.length=q.routes.length) (h2: ∀k,k<p.routes.length->JH (nth p.routes k) (nth q.routes k)=true) (h3:p.unserved=q.unserved):Zbt p q=true:=by
 simp only [Zbt,Bool.and_eq_true,decide_eq_true_eq,List.all_eq_true,List.mem_range];exact ⟨⟨h1,h2⟩,h3⟩
theorem Zj8 {g:FuncId} {args:List V} {a b c:PV} {H:List AM.Obj} {K:V->List AM.Obj->Prop} (h:ACalls Tryz.prog g args [] fun x H'=>x= .tup [.p a,.p b,.p c]/\H'= []) (k:K (.tup [.p a,.p b,.p c]) H) (ha:ZR 0 args=true:=by rfl):ACalls Tryz.prog g args H K :=
 (h.behind ha H).mono fun x H' hq=>by
  obtain ⟨y,H1,⟨rfl,rfl⟩,rfl,rfl⟩:=hq;simpa [shV,shVs] using k
theorem Y7 {g:FuncId} {args:List V} {a b:PV} {H:List AM.Obj} {K:V->List AM.Obj->Prop} (h:ACalls Tryz.prog g args [] fun x H'=>x= .tup [.p a,.p b]/\H'= []) (k:K (.tup [.p a,.p b]) H) (ha:ZR 0 args=true:=by rfl):ACalls Tryz.prog g args H K :=
 (h.behind ha H).mono fun x H' hq=>by
  obtain ⟨y,H1,⟨rfl,rfl⟩,rfl,rfl⟩:=hq;simpa [shV,shVs] using k
def ZbW (n:Net) (p:Int):Bool:=decide (0<=p)&&decide (p<(n.places.length:Int))
def Ua (pr f t:Int) (a:Arc):Bool:=decide (a.src=f)&&decide (a.dst=t)&&decide (a.prof=pr)
def Vn : Arc:=⟨0,0,0,0,true,[],true,[]⟩
def W1 (n:Net) (pr f t:Int):Arc×Bool:=match n.arcs.find? (Ua pr f t) with | some a=>(a,true) | none=>(Vn,false)
theorem Zjw {n:Net} {pr f t:Int} {k:Nat} (hk:k<n.arcs.length) (hno: ∀j,j<k->Ua pr f t (nth n.arcs j)=false) (h:Ua pr f t (nth n.arcs k)=true):W1 n pr f t=(nth n.arcs k,true):=by
 have:n.arcs.find? (Ua pr f t)=some (nth n.arcs k):=by
  rw [List.find?_eq_some_iff_getElem];refine ⟨h,k,hk,by rw [Zd hk],fun j hj=> ?_⟩;have:=hno j hj;rw [Zd (by omega)] at this;simp [this]
 rw [W1,this]
theorem ZjV {n:Net} {pr f t:Int} (hno: ∀j,j<n.arcs.length->Ua pr f t (nth n.arcs j)=false):W1 n pr f t=(Vn,false):=by
 have:n.arcs.find? (Ua pr f t)=none:=by
  rw [List.find?_eq_none];intro a ha;obtain ⟨j,hj,rfl⟩:=List.mem_iff_getElem.1 ha;have:=hno j hj;rw [Zd hj] at this;simp [this]
 rw [W1,this]
def goN (n:Net) (pr f t τ:Int):Int×Int×Int :=
 if (ZbW n f&&ZbW n t)=false then (0,0,11) else if f=t then (τ,0,0) else if (W1 n pr f t).2=true then (Zpt (W1 n pr f t).1 τ,(W1 n pr f t).1.miles,0) else (0,0,12)
def netR (n:Net):Prop:=n.places.length<=1048576/\n.arcs.length<=1048576/\ ∀a∈n.arcs,ZAi a
theorem Jr {n:Net} {pr f t:Int} (h:(W1 n pr f t).2=true):(W1 n pr f t).1∈n.arcs:=by
 unfold W1 at h ⊢
 cases hf:n.arcs.find? (Ua pr f t) with
 | none=>rw [hf] at h;simp at h
 | some a=>exact List.mem_of_find?_eq_some hf
structure Lab where
 ready:Int
 since:Int
 she:She
 deriving Inhabited
def zShe : She:=⟨false,0,true,[],0,0⟩
def Vs : Lab:=⟨0,0,zShe⟩
def XK (t:Typ) (L:Lab) (b:Bool):Int:=if b=true then L.ready+t.rest else L.ready
def QT (L:Lab) (b:Bool):Int:=if b=true then 0 else L.since
def Ztd (l:List Tim) (k:Nat) (d:Int) (b:Bool):List Tim:=l.set k { nth l k with dep:=d,rest:=b }
def Yu (k:Nat) (d:Int) (b:Bool) (s:She):She:=if k=0 then { s with rest:=b,dep:=d } else { s with times:=Ztd s.times (k-1) d b }
def ZfR (t:Typ) (sp:List Stp) (k:Nat):Int:=if k=0 then t.src else (nth sp (k-1)).place
def toF (t:Typ) (sp:List Stp) (k:Nat):Int:=if k=sp.length then t.dst else (nth sp k).place
def goL (x:Inst) (t:Typ) (sp:List Stp) (k:Nat) (d:Int):Int×Int×Int:=goN x.net t.prof (ZfR t sp k) (toF t sp k) d
def Qg (t:Typ) (sp:List Stp) (k:Nat) (g:Int×Int×Int) (d s:Int) (h:She):Lab×Int :=
 if ¬g.2.2=0 then (Vs,12)
 else if k=sp.length then
  if t.cls<g.1 then (Vs,15) else if t.drive<s+g.1-d then (Vs,16)
  else (⟨g.1,s+g.1-d,{ h with fin:=g.1,miles:=h.miles+g.2.1 }⟩,0)
 else if (nth sp k).cls<max g.1 (nth sp k).opn then (Vs,14)
 else if t.drive<s+g.1-d then (Vs,16)
 else (⟨max g.1 (nth sp k).opn+(nth sp k).serv,s+g.1-d,{ h with times_c:=false,times:=h.times++ [⟨g.1,max g.1 (nth sp k).opn,0,false⟩],miles:=h.miles+g.2.1 }⟩,0)
def nxtF (x:Inst) (t:Typ) (sp:List Stp) (k:Nat) (L:Lab) (b:Bool):Lab×Int :=
 Qg t sp k (goL x t sp k (XK t L b)) (XK t L b) (QT L b) (Yu k (XK t L b) b L.she)
def Yj (x:Inst) (t:Typ) (sp:List Stp) (k:Nat) (L:Lab) (b:Bool):Option Lab:=if (nxtF x t sp k L b).2=0 then some (nxtF x t sp k L b).1 else none
def YD (x:Inst) (t:Typ) (sp:List Stp):Nat->Lab->List Bool->Lab×Int
 | _,L,[]=>(L,0)
 | k,L,b::bs=>if (nxtF x t sp k L b).2=0 then YD x t sp (k+1) (nxtF x t sp k L b).1 bs else (Vs,(nxtF x t sp k L b).2)
def labF (t:Typ) (st:Int):Lab:=⟨max t.opn st,0,zShe⟩
theorem Wl {x:Inst} {t:Typ} {sp:List Stp} : ∀(bs:List Bool) (k:Nat) (L:Lab),JW (Yj x t sp) k L bs=if (YD x t sp k L bs).2=0 then some (YD x t sp k L bs).1 else none
 | [],k,L=>by simp [JW,YD]
 | b::bs,k,L=>by
  rw [JW,YD,Yj]
  by_cases h:(nxtF x t sp k L b).2=0
  ·simp only [h,if_true];exact Wl bs (k+1) _
  ·simp [h]
structure TrpOk (x:Inst) (t:Typ) (sp:List Stp):Prop where
 net:netR x.net
 mil: ∀a∈x.net.arcs,0<=a.miles/\a.miles<=10000
 opn:0<=t.opn/\t.opn<=t.cls/\t.cls<=4096
 drv:1<=t.drive/\t.drive<=4096
 rst:0<=t.rest/\t.rest<=4096
 stp: ∀s∈sp,0<=s.opn/\s.opn<=s.cls/\s.cls<=4096/\0<=s.serv/\s.serv<=4096
 len:sp.length<=20
structure LabR (k:Nat) (L:Lab):Prop where
 rdy:0<=L.ready/\L.ready<=8192
 snc: -(12288*(k:Int))<=L.since/\L.since<=4096
 mil:0<=L.she.miles/\L.she.miles<=10000*(k:Int)
theorem Zc2 {n:Net} {pr f t τ:Int} (hn:netR n) (hm: ∀a∈n.arcs,0<=a.miles/\a.miles<=10000) (hτ:0<=τ/\τ<=1073741824):(0<=(goN n pr f t τ).1/\(goN n pr f t τ).1<=1107369984)/\(0<=(goN n pr f t τ).2.1/\(goN n pr f t τ).2.1<=10000):=by
 unfold goN
 split
 ·simp
 ·split
  ·simp only;omega
  ·split
   ·rename_i h;have hA:=Jr h;have h1:=Zd6 (hn.2.2 _ hA).1 hτ;have h2:=VQ (t:=τ) (fun p hp=>((hn.2.2 _ hA).2.2 p hp).2.2) _ (Nat.le_refl _);have h3:=(hn.2.2 _ hA).2.1;have h4:=hm _ hA;simp only [Zpt];omega
   ·simp
theorem ZaP {x t sp k L} (h:TrpOk x t sp) (hl:LabR k L) (b:Bool):0<=XK t L b/\XK t L b<=12288:=by
 have:=h.rst;have:=hl.rdy;unfold XK
 split<;>omega
theorem ZdX {k L} (hl:LabR k L) (b:Bool): -(12288*(k:Int))<=QT L b/\QT L b<=4096:=by
 have:=hl.snc;unfold QT
 split<;>omega
theorem Zim {x t sp k L} (h:TrpOk x t sp) (hl:LabR k L) (b:Bool):(0<=(goL x t sp k (XK t L b)).1/\(goL x t sp k (XK t L b)).1<=1107369984)/\(0<=(goL x t sp k (XK t L b)).2.1/\(goL x t sp k (XK t L b)).2.1<=10000):=by
 have:=ZaP h hl b;exact Zc2 h.net h.mil (by omega)
theorem JG {k d b s} :(Yu k d b s).miles=s.miles:=by unfold Yu;split<;>rfl
theorem Zhr {k d b s} :(Yu k d b s).fin=s.fin:=by unfold Yu;split<;>rfl
theorem QL {k d b s} :(Yu k d b s).times.length=s.times.length:=by unfold Yu;split<;>simp [Ztd]
theorem Zf8 {x t sp k L b} (h:TrpOk x t sp) (hk:k<=sp.length) (hl:LabR k L) (he:(nxtF x t sp k L b).2=0):LabR (k+1) (nxtF x t sp k L b).1:=by
 have h1:=ZaP h hl b;have h2:=ZdX hl b;obtain ⟨h3,h4⟩:=Zim h hl b;have h5:=hl.mil;have h6:=h.opn;have h7:=h.drv;have hm:(Yu k (XK t L b) b L.she).miles=L.she.miles:=JG;unfold nxtF at he ⊢
 generalize goL x t sp k (XK t L b)=g at *
 generalize XK t L b=d at *
 generalize QT L b=s at *
 generalize Yu k d b L.she=m at *
 unfold Qg at he ⊢
 split at he
 ·simp at he
 ·rename_i c1;rw [if_neg c1]
  split at he
  ·rename_i c2;rw [if_pos c2]
   split at he
   ·simp at he
   ·rename_i c3;rw [if_neg c3]
    split at he
    ·simp at he
    ·rename_i c4;rw [if_neg c4];exact ⟨by simp only;omega,by simp only;omega,by simp only;omega⟩
  ·rename_i c2;rw [if_neg c2];have h8:=h.stp _ (Zn (show k<sp.length by omega))
   split at he
   ·simp at he
   ·rename_i c3;rw [if_neg c3]
    split at he
    ·simp at he
    ·rename_i c4;rw [if_neg c4];exact ⟨by simp only;omega,by simp only;omega,by simp only;omega⟩
theorem J7 {x t sp k L b} (hl:L.she.times.length=k) (he:(nxtF x t sp k L b).2=0) (hk:k<sp.length):(nxtF x t sp k L b).1.she.times.length=k+1:=by
 have hm:(Yu k (XK t L b) b L.she).times.length=L.she.times.length:=QL;unfold nxtF at he ⊢
 generalize goL x t sp k (XK t L b)=g at *
 generalize XK t L b=d at *
 generalize QT L b=s at *
 generalize Yu k d b L.she=m at *
 have hk2: ¬k=sp.length:=by omega
 unfold Qg at he ⊢;simp only [if_neg hk2] at he ⊢
 split at he
 ·simp at he
 ·rename_i c1;rw [if_neg c1]
  split at he
  ·simp at he
  ·rename_i c3;rw [if_neg c3]
   split at he
   ·simp at he
   ·rename_i c4;rw [if_neg c4];simp [hm,hl]
def ZD (m x:Lab):Bool:=decide (m.ready=x.ready)&&decide (m.since<=x.since)
theorem Zff {x t sp k} {m y z:Lab} {b:Bool} (hb:ZD m y=true) (hn:Yj x t sp k y b=some z): ∃u,Yj x t sp k m b=some u/\ZD u z=true:=by
 simp only [ZD,Bool.and_eq_true,decide_eq_true_eq] at hb;obtain ⟨hb1,hb2⟩:=hb
 have hd:XK t m b=XK t y b:=by simp [XK,hb1]
 have hs:QT m b<=QT y b:=by unfold QT;split<;>omega
 unfold Yj at hn ⊢;unfold nxtF at hn ⊢;rw [hd]
 generalize goL x t sp k (XK t y b)=g at *
 generalize XK t y b=d at *
 generalize QT y b=s at *
 generalize QT m b=s2 at *
 generalize Yu k d b y.she=h1 at *
 generalize Yu k d b m.she=h2 at *
 unfold Qg at hn ⊢
 by_cases c1:g.2.2=0
 ·by_cases c2:k=sp.length
  ·simp only [c1,c2,not_true,if_true,if_false] at hn ⊢
   by_cases c3:t.cls<g.1
   ·simp [c3] at hn
   ·by_cases c4:t.drive<s+g.1-d
    ·simp [c3,c4] at hn
    ·have c5: ¬t.drive<s2+g.1-d:=by omega
     simp only [c3,c4,if_false,if_true,Option.some.injEq] at hn;subst hn;refine ⟨_,by simp only [c3,c5,if_false,if_true];rfl,?_⟩;simp [ZD];omega
  ·simp only [c1,c2,not_true,if_true,if_false] at hn ⊢
   by_cases c3:(nth sp k).cls<max g.1 (nth sp k).opn
   ·simp [c3] at hn
   ·by_cases c4:t.drive<s+g.1-d
    ·simp [c3,c4] at hn
    ·have c5: ¬t.drive<s2+g.1-d:=by omega
     simp only [c3,c4,if_false,if_true,Option.some.injEq] at hn;subst hn;refine ⟨_,by simp only [c3,c5,if_false,if_true];rfl,?_⟩;simp [ZD];omega
 ·simp [c1] at hn
def VO (L:Lab):Int:=L.she.fin
theorem Zd9 {x t sp} {y z:Lab} {b:Bool} (hn:Yj x t sp sp.length y b=some z):z.she.fin=z.ready:=by
 unfold Yj nxtF Qg at hn
 by_cases c1:(goL x t sp sp.length (XK t y b)).2.2=0
 ·by_cases c3:t.cls<(goL x t sp sp.length (XK t y b)).1
  ·simp [c1,c3] at hn
  ·by_cases c4:t.drive<QT y b+(goL x t sp sp.length (XK t y b)).1-XK t y b
   ·simp [c1,c3,c4] at hn
   ·simp only [c1,c3,c4,not_true,if_true,if_false,Option.some.injEq] at hn;subst hn;rfl
 ·simp [c1] at hn
theorem Zcd {x t sp} (ch:Nat->List Bool) (L:Lab):fmL VO none (U8 ZD (Yj x t sp) ch (sp.length+1) 0 [L])=fmL VO none (YT (Yj x t sp) ch (sp.length+1) 0 L):=by
 have h:=Zhy VO ZD (Yj x t sp) ch (n:=sp.length+1) (Inv:=fun k y=>k=sp.length+1->y.she.fin=y.ready)
  (fun k y b z _ hn hk=>by
   have:k=sp.length:=by omega
   subst this
   exact Zd9 hn) (fun k m y b z _ _ hb hn=>Zff hb hn)
  (fun m y h1 h2 hb=>by
   simp only [ZD,Bool.and_eq_true,decide_eq_true_eq] at hb
   rw [VO,VO,h1 rfl,h2 rfl];omega) (sp.length+1) 0 [L] (by omega) (fun y _ hk=>by omega)
 rw [h];simp
def chF (r:List Bool) (k:Nat):List Bool:=match r[k]? with | some b=> [b] | none=> [false,true]
theorem Zgg (r:List Bool) (n:Nat) (hn:r.length<=n): ∀(j k:Nat),k+j=r.length->ZkY (chF r) (n-k) k=(Yv (List.replicate (n-r.length) false)).map (r.drop k++ ·)
 | 0,k,h=>by
  have hk:k=r.length:=by omega
  subst hk;rw [ZeD (n:=n) _ _ _ (fun q hq=>by simp [chF,List.getElem?_eq_none hq])];simp
 | j+1,k,h=>by
  have e:n-k=(n-(k+1))+1:=by omega
  have hlt:k<r.length:=by omega
  rw [e,ZkY,Zgg r n hn j (k+1) (by omega)]
  have:chF r k= [r[k]]:=by simp [chF,hlt]
  rw [this,List.flatMap_cons,List.flatMap_nil,List.append_nil,List.map_map,List.drop_eq_getElem_cons hlt]
  rfl
theorem ZbH (r:List Bool) (n:Nat) (hn:r.length<=n):ZkY (chF r) n 0=(Yv (List.replicate (n-r.length) false)).map (r++ ·):=by
 have:=Zgg r n hn r.length 0 (by omega);simpa using this
def Yo (r:List Bool) (n:Nat):List (List Bool):=(Yv (List.replicate (n-r.length) false)).map (r++ ·)
def J1 (r:List Bool) (n:Nat):List Bool:=r++List.replicate (n-r.length) false
def VJ (x:Inst) (t:Typ) (sp:List Stp) (st:Int) (r:List Bool):She×Int :=
 match fmL VO none ((Yo r (sp.length+1)).filterMap (JW (Yj x t sp) 0 (labF t st))) with
 | some L=>(L.she,0)
 | none=>(zShe,(YD x t sp 0 (labF t st) (J1 r (sp.length+1))).2)
theorem Zcl {x t sp} {st:Int} {r:List Bool} (hr:r.length<=sp.length+1):VJ x t sp st r=match fmL VO none (U8 ZD (Yj x t sp) (chF r) (sp.length+1) 0 [labF t st]) with
 | some L=>(L.she,0)
 | none=>(zShe,(YD x t sp 0 (labF t st) (J1 r (sp.length+1))).2):=by
 rw [Zcd,YT,ZbH r _ hr];rfl
theorem Zel {x t sp} : ∀(bs:List Bool) (k:Nat) (L:Lab),L.she.times.length=k->k+bs.length=sp.length+1->0<bs.length->(YD x t sp k L bs).2=0->(YD x t sp k L bs).1.she.times.length=sp.length
 | [],k,L,h1,h2,h3,h=>by simp at h3
 | b::bs,k,L,h1,h2,_,h=>by
  rw [YD] at h ⊢
  by_cases h4:(nxtF x t sp k L b).2=0
  ·simp only [h4,if_true] at h ⊢
   cases bs with
   | nil =>
    simp at h2;subst h2;rw [YD];unfold nxtF at h4 ⊢;unfold Qg at h4 ⊢
    split at h4
    ·simp at h4
    ·rename_i c1;rw [if_neg c1];simp only [if_true] at h4 ⊢
     split at h4
     ·simp at h4
     ·rename_i c2;rw [if_neg c2]
      split at h4
      ·simp at h4
      ·rename_i c3;rw [if_neg c3];simp [QL,h1]
   | cons b2 bs =>
    simp at h2;exact Zel (b2::bs) (k+1) _ (J7 h1 h4 (by omega)) (by simp;omega) (by simp) h
  ·simp [h4] at h
theorem bestF_len {x t sp} {st:Int} {r:List Bool} (hr:r.length<=sp.length+1) (h:(VJ x t sp st r).2=0):(VJ x t sp st r).1.times.length=sp.length:=by
 unfold VJ at h ⊢
 cases hf:fmL VO none ((Yo r (sp.length+1)).filterMap (JW (Yj x t sp) 0 (labF t st))) with
 | none =>
  rw [hf] at h;simp only at h ⊢;exfalso
  have hm:J1 r (sp.length+1)∈Yo r (sp.length+1):=by
   unfold Yo J1;rw [WX];simp
  have h2:JW (Yj x t sp) 0 (labF t st) (J1 r (sp.length+1))=some (YD x t sp 0 (labF t st) (J1 r (sp.length+1))).1:=by rw [Wl,if_pos h]
  have h3:(YD x t sp 0 (labF t st) (J1 r (sp.length+1))).1∈(Yo r (sp.length+1)).filterMap (JW (Yj x t sp) 0 (labF t st)):=List.mem_filterMap.2 ⟨_,hm,h2⟩;generalize (Yo r (sp.length+1)).filterMap (JW (Yj x t sp) 0 (labF t st))=l at hf h3
  cases l with
  | nil=>simp at h3
  | cons a l =>
   rw [fmL] at hf;obtain ⟨z,e,_⟩:=WR VO l a;rw [e] at hf
   cases hf
 | some L =>
  simp only;have hm:=fmL_mem _ _ hf;obtain ⟨bs,hbs,hrun⟩:=List.mem_filterMap.1 hm;rw [Wl] at hrun
  split at hrun
  ·rename_i h5;simp at hrun;subst hrun;obtain ⟨q,hq,rfl⟩:=List.mem_map.1 hbs;have hql:=fromB_len _ _ hq;simp at hql;exact Zel _ 0 _ rfl (by simp [hql];omega) (by simp [hql];omega) h5
  ·cases hrun
where
 fmL_mem: ∀(l:List Lab) (L:Lab),fmL VO none l=some L->L∈l
 | [],L,h=>by simp [fmL] at h
 | a::l,L,h=>by
  rw [fmL] at h;exact fmL_mem2 l a L h
 fmL_mem2: ∀(l:List Lab) (a L:Lab),fmL VO (some a) l=some L->L∈a::l
 | [],a,L,h=>by simp [fmL] at h;subst h;simp
 | y::l,a,L,h=>by
  rw [fmL] at h
  split at h
  ·have:=fmL_mem2 l y L h;simp only [List.mem_cons] at this ⊢;rcases this with h | h<;>simp [h]
  ·have:=fmL_mem2 l a L h;simp only [List.mem_cons] at this ⊢;rcases this with h | h<;>simp [h]
 fromB_len: ∀(l q:List Bool),q∈Yv l->q.length=l.length
 | [],q,h=>by simp [Yv] at h;subst h;rfl
 | b::bs,q,h=>by
  rw [Yv] at h
  split at h
  ·obtain ⟨q',hq,rfl⟩:=List.mem_map.1 h;simp [fromB_len bs q' hq]
  ·rcases List.mem_append.1 h with h | h
   ·obtain ⟨q',hq,rfl⟩:=List.mem_map.1 h;simp [fromB_len bs q' hq]
   ·obtain ⟨q',hq,rfl⟩:=List.mem_map.1 h;simp [fromB_len (List.replicate bs.length false) q' hq]
 termination_by l=>l.length
 decreasing_by all_goals simp
def Xp (x:Inst) (v:Vis):Stp:=if v.drp=true then (nth x.orders v.order.toNat).drp else (nth x.orders v.order.toNat).pick
def ZU (x:Inst) (l:List Vis):List Stp:=l.map (Xp x)
def Uw (t:Typ) (s:Int):Bool:=decide (0<=t.skills)&&decide (0<=s)&&(List.range 63).all fun i=> !s.toNat.testBit i||t.skills.toNat.testBit i
def Jm (a c:List Int):Bool:=decide (a.length=c.length)&&(List.range a.length).all fun i=>decide (nth a i<=nth c i)
def Zc1 (x:Inst) (c:List Int) (l:List Vis):Bool:=(List.range (l.length+1)).all fun n=>Jm (Qa x l n) c
def XX (x:Inst) (r:Rte):Typ:=nth x.types r.typ.toNat
def Ko (l:List Vis) (i:Nat):Bool:= !((l.take i).any fun v=>decide (v.order=(nth l i).order))
def Jn (k t:Int):Bool:=decide (k≠ -1)&&decide (k≠t)
def chgF (x:Inst) (l:List Vis) (t:Int):Nat->Int×Int
 | 0=>(0,0)
 | n+1=>if Ko l n=true then ((chgF x l t n).1+(if Jn (nth x.orders (nth l n).order.toNat).now t=true then 1 else 0),(chgF x l t n).2+(if Jn (nth x.orders (nth l n).order.toNat).last t=true then 1 else 0)) else chgF x l t n
def ZpB (x:Inst) (r:Rte) (s:She):Sco :=
 ⟨(XX x r).fixed+(XX x r).perMile*s.miles+(XX x r).perTick*(s.fin-(XX x r).opn),(chgF x r.visits r.typ r.visits.length).1,(chgF x r.visits r.typ r.visits.length).2,(s.fin-(XX x r).opn).tdiv 64*(s.fin-(XX x r).opn).tdiv 64⟩
def Wo (x:Inst) (r:Rte):Int :=
 if ¬(0<=r.typ/\r.typ<(x.types.length:Int)) then 2
 else if ¬Xm x r.visits=0 then Xm x r.visits
 else if (r.visits.any fun v=> !Uw (XX x r) (nth x.orders v.order.toNat).skills)=true then 18
 else if Zc1 x (XX x r).cap r.visits=false then 17
 else if ¬(0<=r.start/\r.start<=4096/\r.rests.length<=r.visits.length+1) then 2
 else 0
def X0 (x:Inst) (r:Rte):She×Int:=VJ x (XX x r) (ZU x r.visits) r.start r.rests
def ZS (x:Inst) (r:Rte):Int:=if Wo x r=0 then (X0 x r).2 else Wo x r
def Y9 (x:Inst) (r:Rte):She:=if ZS x r=0 then (X0 x r).1 else zShe
def Xf (x:Inst) (r:Rte):Sco:=if ZS x r=0 then ZpB x r (X0 x r).1 else zSco
def inB (x:Inst) (v:Vis):Bool:=decide (0<=v.order)&&decide (v.order<(x.orders.length:Int))
def ZwP (x:Inst) (v:Vis):Bool:=inB x v&&decide (0<=(Xp x v).place)
@[go_sem high] theorem ZAP {k k':IntKind} {a b:Int} :Zjy false [.p (.int k a),.p (.int k' b)]=some (.int k (max a b)):=by
 simp only [Zjy]
 by_cases h:a<b
 ·simp [h];omega
 ·simp [h];omega
theorem XH {x:Inst} {l:List Vis} :(ZU x l).length=l.length:=by simp [ZU]
theorem ZeW {x:Inst} {l:List Vis} {k:Nat} (h:k<l.length):nth (ZU x l) k=Xp x (nth l k):=by
 rw [Zd (by simpa [ZU] using h),Zd h];simp [ZU]
structure LdOk (x:Inst):Prop where
 ord:x.orders.length<=10
 typ:x.types.length<=1048576
 dim:1<=dimsOf x.types/\dimsOf x.types<=3
 load: ∀o∈x.orders,(o.load.length:Int)=dimsOf x.types/\ ∀n∈o.load,0<=n/\n<=1000
theorem Je {x:Inst} (h:InstOk x):LdOk x:=by
 have ht:=h.types.1;simp only [rng,decide_eq_true_eq] at ht;have ho:=h.orders
 have h0:0<x.types.length:=by omega
 have hcap:=h.types.2 0 h0;unfold K6 at hcap;obtain ⟨⟨⟨⟨⟨⟨⟨⟨_,_⟩,_⟩,_⟩,hcap⟩,_⟩,_⟩,_⟩,_⟩:=hcap;simp only [VN,Bool.and_eq_true,decide_eq_true_eq,rng] at hcap;refine ⟨ho.1,by omega,by omega,fun o hm=> ?_⟩;obtain ⟨i,hi,rfl⟩:=List.mem_iff_getElem.1 hm;have:=(ho.2 i hi).load;rw [Zd hi] at this;simp only [loadOk,Bool.and_eq_true,decide_eq_true_eq,List.all_eq_true,rng] at this;exact ⟨this.1,this.2⟩
def eIL (l:List Int):PV:= .list false (l.map eI)
@[go_sem] theorem ZuJ (l:List Int):eIL l= .list false (l.map eI):=Eq.trans rfl rfl
def ZcG (x:Inst) (l:List Vis):List (List Int):=(List.range (l.length+1)).map (Qa x l)
def Q1 (c m o w:Int):AM.Obj:= .cells [.p (.int .i64 c),.p (.int .i64 m),.p (.int .i64 o),.p (.int .i64 w)]
theorem ZaT {x:Inst} {l:List Vis} {t:Int} : ∀n:Nat,(0<=(chgF x l t n).1/\(chgF x l t n).1<=n)/\(0<=(chgF x l t n).2/\(chgF x l t n).2<=n)
 | 0=>by simp [chgF]
 | n+1=>by
  have ih:=ZaT (x:=x) (l:=l) (t:=t) n;rw [chgF]
  split
  ·simp only
   constructor<;>split<;>omega
  ·omega
theorem SqOk.len {x:Inst} {l:List Vis} (h:SqOk x l) (hn:x.orders.length<=10):l.length<=20:=by
 have h1:=List.Nodup.length_le_of_subset (l₁ :=l) (l₂ :=(List.range 10).flatMap fun i:Nat=> [(⟨(i:Int),false⟩:Vis),⟨(i:Int),true⟩]) h.nd (fun v hv=>by
  obtain ⟨v1,v2⟩:=h.inr v hv;rw [List.mem_flatMap];refine ⟨v.order.toNat,List.mem_range.2 (by omega),?_⟩;obtain ⟨o,d⟩:=v
  have e:((o.toNat:Nat):Int)=o:=by simp only at v1;omega
  cases d<;>simp [e])
 have h2:((List.range 10).flatMap fun i:Nat=> [(⟨(i:Int),false⟩:Vis),⟨(i:Int),true⟩]).length=20:=rfl;omega
theorem SqOk.vis {x:Inst} {l:List Vis} (h:SqOk x l) {v:Vis} (hv:v∈l):ZwP x v=true:=by
 obtain ⟨v1,v2⟩:=h.inr v hv;obtain ⟨i,hi⟩: ∃i:Nat,v.order=(i:Int):=⟨v.order.toNat,by omega⟩;have ho:=h.own (i:=i) ⟨v,hv,hi⟩
 have hpl:0<=(Xp x v).place:=by
  unfold Xp;rw [hi,Int.toNat_natCast]
  cases hd:v.drp with
  | true=>exact ho.isD (by rw [<- hi,<- hd];exact hv)
  | false=>exact ho.isP (by rw [<- hi,<- hd];exact hv)
 simp [ZwP,inB,v1,v2,hpl]
theorem ZhX {n:Net} (h:netOk n):netR n/\ ∀a∈n.arcs,0<=a.miles/\a.miles<=10000:=by
 obtain ⟨⟨⟨h1,_⟩,h2⟩,h3⟩:=h
 have ha: ∀a∈n.arcs,ZAi a/\0<=a.miles/\a.miles<=10000:=fun a hm=>by
  obtain ⟨i,hi,rfl⟩:=List.mem_iff_getElem.1 hm;have:=h3 i hi;unfold Zhv at this;rw [Zd hi] at this;obtain ⟨⟨⟨⟨⟨_,g1⟩,_⟩,g2⟩,g3⟩,g4⟩:=this;refine ⟨⟨g2,g3,fun p hp=> ?_⟩,g1.2.2.1,g1.2.2.2.1⟩;obtain ⟨j,hj,rfl⟩:=List.mem_iff_getElem.1 hp;have:=g4 j hj;unfold U4 at this;rw [Zd hj] at this;simp only [Zkv,rng,decide_eq_true_eq] at this;exact ⟨this.1.1,this.1.2,this.2.1.1,this.2.1.2⟩
 exact ⟨⟨by omega,by omega,fun a hm=>(ha a hm).1⟩,fun a hm=>(ha a hm).2⟩
theorem YP {x:Inst} (hx:InstOk x) {i:Nat} (hi:i<x.types.length):(0<=(nth x.types i).opn/\(nth x.types i).opn<=(nth x.types i).cls/\(nth x.types i).cls<=4096)/\(1<=(nth x.types i).drive/\(nth x.types i).drive<=4096)/\(0<=(nth x.types i).rest/\(nth x.types i).rest<=4096) /\
  (0<=(nth x.types i).fixed/\(nth x.types i).fixed<=100000/\0<=(nth x.types i).perMile/\(nth x.types i).perMile<=100/\0<=(nth x.types i).perTick/\(nth x.types i).perTick<=100)/\(0<=(nth x.types i).skills/\(nth x.types i).skills<=1073741823):=by
 have ht:=hx.types.2 i hi;unfold K6 at ht;obtain ⟨⟨⟨⟨⟨⟨⟨⟨_,_⟩,_⟩,_⟩,_⟩,h1⟩,h2⟩,h3⟩,h4⟩:=ht;simp only [rng,decide_eq_true_eq] at h1 h2 h3 h4;omega
theorem Qz {x:Inst} {r:Rte} (hx:InstOk x) (ht:0<=r.typ/\r.typ<(x.types.length:Int)) (h:SqOk x r.visits):TrpOk x (XX x r) (ZU x r.visits):=by
 have hti:r.typ.toNat<x.types.length:=by omega
 obtain ⟨t1,t2,t3,_⟩:=YP hx hti;obtain ⟨n1,n2⟩:=ZhX hx.net;refine ⟨n1,n2,t1,t2,t3,fun s hs=> ?_,by rw [XH];exact h.len hx.orders.1⟩;obtain ⟨v,hv,rfl⟩:=List.mem_map.1 hs;obtain ⟨v1,v2⟩:=h.inr v hv
 have hi:v.order.toNat<x.orders.length:=by omega
 have ho:=hx.orders.2 _ hi;have hvis:=h.vis hv;have hp:=ho.pstp;have hd:=ho.dstp;simp only [stpOk,decide_eq_true_eq] at hp hd;simp only [ZwP,Bool.and_eq_true,decide_eq_true_eq] at hvis;have h3:=hvis.2;unfold Xp at h3 ⊢
 split
 ·rename_i c;rw [if_pos c] at h3;omega
 ·rename_i c;rw [if_neg c] at h3;omega
theorem ZeE {x t sp} (h:TrpOk x t sp): ∀(bs:List Bool) (k:Nat) (L:Lab),k+bs.length=sp.length+1->LabR k L->(YD x t sp k L bs).2=0->LabR (sp.length+1) (YD x t sp k L bs).1/\(bs≠ []->(YD x t sp k L bs).1.she.fin=(YD x t sp k L bs).1.ready)
 | [],k,L,hk,hl,h0=>by
  simp at hk;subst hk;exact ⟨hl,fun h=>absurd rfl h⟩
 | b::bs,k,L,hk,hl,h0=>by
  simp at hk;rw [YD] at h0 ⊢
  split at h0
  ·rename_i c;rw [if_pos c];obtain ⟨h1,h2⟩:=ZeE h bs (k+1) _ (by omega) (Zf8 h (by omega) hl c) h0;refine ⟨h1,fun _=> ?_⟩
   cases bs with
   | nil =>
    simp at hk;subst hk;exact Zd9 (x:=x) (t:=t) (sp:=sp) (y:=L) (b:=b) (by rw [Yj,if_pos c];rfl)
   | cons b2 bs=>exact h2 (by simp)
  ·simp at h0;rename_i c;exact absurd h0 c
theorem ZeL {x t sp} {st:Int} {r:List Bool} (h:TrpOk x t sp) (hs:0<=st/\st<=4096) (hr:r.length<=sp.length+1) (h0:(VJ x t sp st r).2=0):(0<=(VJ x t sp st r).1.fin/\(VJ x t sp st r).1.fin<=8192)/\(0<=(VJ x t sp st r).1.miles/\(VJ x t sp st r).1.miles<=210000):=by
 have hL0:LabR 0 (labF t st):=⟨by have:=h.opn;simp only [labF];omega,by simp [labF],by simp [labF,zShe]⟩;have hl:=h.len
 have key: ∀bs∈Yo r (sp.length+1),(YD x t sp 0 (labF t st) bs).2=0->(0<=(YD x t sp 0 (labF t st) bs).1.she.fin/\(YD x t sp 0 (labF t st) bs).1.she.fin<=8192)/\(0<=(YD x t sp 0 (labF t st) bs).1.she.miles/\(YD x t sp 0 (labF t st) bs).1.she.miles<=210000):=fun bs hbs he=>by
  obtain ⟨q,hq,rfl⟩:=List.mem_map.1 hbs;have hql:=bestF_len.fromB_len _ _ hq;simp at hql
  have hne:r++q≠ []:=fun e=>by
   have h2:(r++q).length=0:=by rw [e];rfl
   rw [List.length_append] at h2;omega
  obtain ⟨g1,g2⟩:=ZeE h (r++q) 0 _ (by simp;omega) hL0 he;rw [g2 hne];have:=g1.rdy;have:=g1.mil;omega
 unfold VJ at h0 ⊢
 cases hf:fmL VO none ((Yo r (sp.length+1)).filterMap (JW (Yj x t sp) 0 (labF t st))) with
 | some L =>
  simp only;have:=bestF_len.fmL_mem _ _ hf;obtain ⟨bs,hbs,hrun⟩:=List.mem_filterMap.1 this;rw [Wl] at hrun
  split at hrun
  ·rename_i c;simp at hrun;subst hrun;exact key bs hbs c
  ·cases hrun
 | none =>
  simp only;simp [zShe]
theorem ZlJ {g:FuncId} {args:List V} {a b c:PV} {H:List AM.Obj} {K:V->List AM.Obj->Prop} (h:ACalls Tryz.prog g args [] fun x H'=>x= .tup [.p a,.p b,.p c]/\H'= []) (k:K (.tup [.p a,.p b,.p c]) H) (ha:ZR 0 args=true:=by rfl):ACalls Tryz.prog g args H K:=Zj8 h k ha
def Zdv (x:Inst) (r:Rte):V:= .tup [.p (Zo3 (Y9 x r)),.p (ZfF (Xf x r)),.p (.int .i64 (ZS x r))]
theorem Wc {x:Inst} {r:Rte} {e:Int} (h:ZS x r=e) (h0:e≠0):Zdv x r= .tup [.p (Zo3 zShe),.p (ZfF zSco),.p (.int .i64 e)]:=by
 unfold Zdv Y9 Xf;rw [h,if_neg h0,if_neg h0]
theorem ZtP {p q:Pt} {t:Int} (h1:p.t<=t) (h2:t<q.t) (hp:p.t<=p.a) (hq:q.t<=q.a):t<=ZjZ p q t:=by
 unfold ZjZ
 have hw:0<q.t-p.t:=by omega
 have key:(t-p.a)*(q.t-p.t)<=(t-p.t)*(q.a-p.a)+q.t-p.t-1:=by
  have e:(t-p.t)*(q.a-p.a)-(t-p.a)*(q.t-p.t)=(t-p.t)*(q.a-q.t)+(p.a-p.t)*(q.t-t):=by
   simp only [Int.sub_mul,Int.mul_sub];rw [Int.mul_comm p.a t,Int.mul_comm p.a p.t,Int.mul_comm p.a q.t,Int.mul_comm p.t t];omega
  have h3:0<=(t-p.t)*(q.a-q.t):=Int.mul_nonneg (by omega) (by omega);have h4:0<=(p.a-p.t)*(q.t-t):=Int.mul_nonneg (by omega) (by omega);omega
 have:=Int.le_ediv_of_mul_le hw key;omega
theorem Zog {l:List Pt} {t:Int} (hl:Y4 l):t<=ZbK l t:=by
 obtain ⟨⟨hl1,hl2⟩,hpt⟩:=hl;unfold ZbK
 split
 ·rename_i i hi;have hm:=List.mem_of_find?_eq_some hi;have hs:=List.find?_some hi;simp at hm;simp only [ZcV,Bool.and_eq_true,decide_eq_true_eq] at hs;obtain ⟨⟨p1,p2,p3,p4⟩,_⟩:=hpt i (by omega);obtain ⟨⟨q1,q2,q3,q4⟩,q5⟩:=hpt (i+1) (by omega);exact ZtP hs.1 hs.2 p3 q3
 ·obtain ⟨⟨p1,p2,p3,p4⟩,_⟩:=hpt 0 (by omega);obtain ⟨⟨q1,q2,q3,q4⟩,_⟩:=hpt (l.length-1) (by omega)
  split<;>omega
theorem ZlV {n:Net} {pr f t τ:Int} (hn:netR n) (h:(goN n pr f t τ).2.2=0):τ<=(goN n pr f t τ).1:=by
 unfold goN at h ⊢
 split at h
 ·simp at h
 ·rename_i c1;rw [if_neg c1]
  split at h
  ·rename_i c2;rw [if_pos c2];simp
  ·rename_i c2;rw [if_neg c2]
   split at h
   ·rename_i c3;rw [if_pos c3];have hA:=Jr c3;have h1:=Zog (t:=τ) (hn.2.2 _ hA).1;have h2:=VQ (t:=τ) (fun p hp=>((hn.2.2 _ hA).2.2 p hp).2.2) _ (Nat.le_refl _);simp only [Zpt];omega
   ·simp at h
theorem ZbO {x t sp} {st:Int} {r:List Bool} (hr:r.length<=sp.length+1) (h:(VJ x t sp st r).2=0): ∃bs:List Bool,bs.length=sp.length+1/\(YD x t sp 0 (labF t st) bs).2=0/\(VJ x t sp st r).1=(YD x t sp 0 (labF t st) bs).1.she:=by
 unfold VJ at h ⊢
 cases hf:fmL VO none ((Yo r (sp.length+1)).filterMap (JW (Yj x t sp) 0 (labF t st))) with
 | none =>
  rw [hf] at h;simp only at h ⊢;exfalso
  have hm:J1 r (sp.length+1)∈Yo r (sp.length+1):=by
   unfold Yo J1;rw [WX];simp
  have h2:JW (Yj x t sp) 0 (labF t st) (J1 r (sp.length+1))=some (YD x t sp 0 (labF t st) (J1 r (sp.length+1))).1:=by rw [Wl,if_pos h]
  have h3:(YD x t sp 0 (labF t st) (J1 r (sp.length+1))).1∈(Yo r (sp.length+1)).filterMap (JW (Yj x t sp) 0 (labF t st)):=List.mem_filterMap.2 ⟨_,hm,h2⟩;generalize (Yo r (sp.length+1)).filterMap (JW (Yj x t sp) 0 (labF t st))=l at hf h3
  cases l with
  | nil=>simp at h3
  | cons a l =>
   rw [fmL] at hf;obtain ⟨z,e,_⟩:=WR VO l a;rw [e] at hf
   cases hf
 | some L =>
  simp only;have hm:=bestF_len.fmL_mem _ _ hf;obtain ⟨bs,hbs,hrun⟩:=List.mem_filterMap.1 hm;rw [Wl] at hrun
  split at hrun
  ·rename_i h5;simp at hrun;subst hrun;obtain ⟨q,hq,rfl⟩:=List.mem_map.1 hbs;have hql:=bestF_len.fromB_len _ _ hq;simp at hql;exact ⟨r++q,by simp [hql];omega,h5,rfl⟩
  ·cases hrun
structure Sr where
 rdy:Int
 drv:Int
 deriving Inhabited,DecidableEq
def W3 (l:List Sr) (s:Sr):List Sr:=if s∈l then l else l++ [s]
def YU (t:Typ) (l:List Sr) (d v:Int):List Sr:=W3 (W3 l ⟨d,v⟩) ⟨d+t.rest,0⟩
def Ku (x:Inst) (t:Typ) (from':Int) (stop:Stp) (out:List Sr) (a:Sr):List Sr :=
 if ¬(goN x.net t.prof from' stop.place a.rdy).2.2=0\/t.drive<a.drv+(goN x.net t.prof from' stop.place a.rdy).1-a.rdy then out
 else if stop.cls<max (goN x.net t.prof from' stop.place a.rdy).1 stop.opn then out
 else YU t out (max (goN x.net t.prof from' stop.place a.rdy).1 stop.opn+stop.serv) (a.drv+(goN x.net t.prof from' stop.place a.rdy).1-a.rdy)
def KD (x:Inst) (t:Typ) (from':Int) (st:List Sr) (stop:Stp):List Sr:=st.foldl (Ku x t from' stop) []
theorem Zba {l:List Sr} {s a:Sr} :a∈W3 l s↔a∈l\/a=s:=by
 unfold W3
 split
 ·rename_i h;exact ⟨.inl,fun g=>g.elim id fun e=>e ▸ h⟩
 ·simp
theorem XZ {t:Typ} {l:List Sr} {d v:Int} {a:Sr} :a∈YU t l d v↔a∈l\/a=⟨d,v⟩\/a=⟨d+t.rest,0⟩:=by
 rw [YU,Zba,Zba,or_assoc]
theorem ZgD {n:Nat} (h:n<10):dec n= [UInt8.ofNat (48+n)]:=by rw [dec,dif_pos h]
theorem ZnI {n:Nat} (h:10<=n) (h2:n<100):dec n= [UInt8.ofNat (48+n / 10),UInt8.ofNat (48+n%10)]:=by
 rw [dec,dif_neg (by omega),ZgD (by omega)];rfl
theorem ZdA {s:List UInt8} {k k':IntKind} {a b:Int} (h:0<=a/\a<=b/\b<=(s.length:Int)):ZiP (some .string) s (.p (.int k a)) (.p (.int k' b))=some (.p (.str ((s.take b.toNat).drop a.toNat))):=by
 simp only [ZiP,if_pos h]
def digT : List UInt8:=(List.range 36).map fun i=>UInt8.ofNat (if i<10 then 48+i else 87+i)
def smalT : List UInt8:=(List.range 100).flatMap fun i=> [UInt8.ofNat (48+i / 10),UInt8.ofNat (48+i%10)]
theorem Zoe : ∀n,n<10->(digT.take (n+1)).drop n= [UInt8.ofNat (48+n)]:=by decide
theorem Zky : ∀n,n<100->(smalT.take (2*n+2)).drop (2*n)= [UInt8.ofNat (48+n / 10),UInt8.ofNat (48+n%10)]:=by decide+kernel
theorem Zne (n:Nat) (hn:n<100):PC 274 [.p (.int .i64 (n:Int))] (.str (dec n)):=by
 refine Za Tryz.func274 rfl ZtY ?_;simp (disch:=omega) only [Tryz.f274,go_sem,seval];refine cD ?_ ?_<;>intro h<;>simp (disch:=omega) only [Sh.out h,go_sem,seval]
 ·rw [ZgD (by omega),ZdA (by simp;omega)]
  have e1:((n:Int)+1).toNat=n+1:=by omega
  have e2:((n:Int)).toNat=n:=by omega
  rw [e1,e2];refine (congrArg (fun z=>pst (some (V.p (PV.str z))) _) (Zoe n (by omega))).mpr ?_;simp (disch:=omega) only [go_sem,seval]
 ·rw [ZnI (by omega) hn,ZdA (by simp;omega)]
  have e1:((n:Int)*2+2).toNat=2*n+2:=by omega
  have e2:((n:Int)*2).toNat=2*n:=by omega
  rw [e1,e2];refine (congrArg (fun z=>pst (some (V.p (PV.str z))) _) (Zky n (by omega))).mpr ?_;simp (disch:=omega) only [go_sem,seval]
theorem Zi9 (n:Nat) (hn:n<100):PC 270 [.p (.int .i64 (n:Int)),.p (.int .i64 10)] (.str (dec n)):=by
 refine Za Tryz.func270 rfl Zu1 ?_
 have h0:(0:Int)<=(n:Int):=by omega
 have h1:(n:Int)<100:=by omega
 simp (disch:=omega) only [Tryz.f270,h0,h1,go_sem,seval];refine (Zne n hn).use ?_;simp (disch:=omega) only [go_sem,seval]
theorem Zof (n:Nat) (hn:n<100):PC 268 [.p (.int .i64 (n:Int))] (.str (dec n)):=by
 refine Za Tryz.func268 rfl Zr9 ?_;simp (disch:=omega) only [Tryz.f268,go_sem,seval];refine (Zi9 n hn).use ?_;simp (disch:=omega) only [go_sem,seval]
theorem Zuz (n:Nat) (hn:n<100):PC 265 [.p (.int .i64 (n:Int))] (.str (dec n)):=by
 refine Za Tryz.func265 rfl ZtB ?_;simp (disch:=omega) only [Tryz.f265,go_sem,seval];refine (Zof n hn).use ?_;simp (disch:=omega) only [go_sem,seval]
theorem ZeC (n a b:Int):PC 252 [.p (.int .i64 n),.p (.int .i64 a),.p (.int .i64 b)] (.bool (decide (a<=n)&&decide (n<=b))):=by
 refine Za Tryz.func252 rfl ZtS ?_;simp (disch:=omega) only [Tryz.f252,go_sem,seval]
 repeat' (first | (refine ZP (fun hq=> ?_) (fun hq=> ?_)<;>(try simp only [decide_eq_true_eq,decide_eq_false_iff_not,Classical.not_not] at hq)<;>simp (disch:=omega) only [Sh.out hq,go_sem,seval]) | (refine ZQ (fun hq=> ?_) (fun hq=> ?_)<;>(try simp only [decide_eq_true_eq,decide_eq_false_iff_not,Classical.not_not] at hq)<;>simp (disch:=omega) only [Sh.out hq,go_sem,seval]) | (refine Z8 (fun hq=> ?_) (fun hq=> ?_)<;>(try simp only [decide_eq_true_eq,decide_eq_false_iff_not,Classical.not_not] at hq)<;>simp (disch:=omega) only [Sh.out hq,go_sem,seval]))
 all_goals (simp;first | done | omega)
theorem Zi7 (l:List Pt) (c:Bool) (hl:Y4 l):PC 258 [.p (.list c (l.map ePt))] (.list true []):=by
 obtain ⟨⟨hl1,hl2⟩,hpt⟩:=hl;refine Za Tryz.func258 rfl Zt1 ?_
 have e1: ¬(l.length:Int)=0:=by omega
 have e2: ¬(16:Int)<(l.length:Int):=by omega
 simp (disch:=omega) only [Tryz.f258,e1,e2,go_sem,seval];refine Zg [0,19,20] (fun k:Nat=> [(3,.p (.list true [])),(21,.p (.int .i64 k))]) (fun _=> []) (fun k=>k<=l.length) (fun k=>l.length-k) 0 (by simp) (Weak.mk ?_) ?_
 ·simp (disch:=omega) only [go_sem,seval]
 ·intro k hk;simp (disch:=omega) only [go_sem,seval];refine cD ?_ ?_<;>intro h<;>simp (disch:=omega) only [Sh.out h,go_sem,seval]
  ·have hk2:k<l.length:=by omega
   obtain ⟨⟨p1,p2,p3,p4⟩,q⟩:=hpt k hk2;refine (Zuz k (by omega)).use ?_;simp (disch:=omega) only [go_sem,seval];refine (ZeC (nth l k).t 0 4096).use ?_;simp (disch:=omega) only [go_sem,seval];simp (disch:=omega) only [p1,p2,go_sem,seval];refine gF ?_ ?_<;>intro h3<;>simp (disch:=omega) only [Sh.out h3,go_sem,seval]
   ·omega
   ·refine cD ?_ ?_<;>intro h4<;>simp (disch:=omega) only [Sh.out h4,go_sem,seval]
    ·omega
    ·refine Zh mixed (by kernel_rfl) (by kernel_rfl) ?_;simp (disch:=omega) only [go_sem,seval];refine gT ?_ ?_<;>intro h5<;>simp (disch:=omega) only [Sh.out h5,go_sem,seval]
     ·obtain ⟨r1,r2⟩:=q (by omega);refine gF ?_ ?_<;>intro h6<;>simp (disch:=omega) only [Sh.out h6,go_sem,seval]
      ·omega
      ·refine cD ?_ ?_<;>intro h7<;>simp (disch:=omega) only [Sh.out h7,go_sem,seval]
       ·omega
       ·exact ⟨k+1,by omega,by omega,wk⟩
     ·exact ⟨k+1,by omega,by omega,wk⟩
theorem Zif (p:Pt) (t:Int) (h:0<=p.t/\p.t<=4096) (ht:0<=t/\t<=1073741824):PC 260 [.p (ePt p),.p (.int .i64 t)] (.int .i64 (p.t-t)):=by
 refine Za Tryz.func260 rfl ZuO ?_;simp (disch:=omega) only [Tryz.f260,go_sem,seval]
theorem ZoL (l:List Pt) (c:Bool) (hl:Y4 l):PC 253 [.p (.list c (l.map ePt))] (.bool true):=by
 refine Za Tryz.func253 rfl ZrB ?_;simp (disch:=omega) only [Tryz.f253,go_sem,seval];refine (Zi7 l c hl).use ?_;simp (disch:=omega) only [go_sem,seval]
structure PosT (l:List Pt) (t:Int) (i:Nat):Prop where
 le:i<=l.length
 lo: ∀j,j<i->(nth l j).t<t
 hi: ∀j,i<=j->j<l.length->t<=(nth l j).t
theorem Zzb (l:List Pt) (c:Bool) (t:Int) (i:Nat) (hl:Y4 l) (ht:0<=t/\t<=1073741824) (hi:PosT l t i):PT 259 [.p (.list c (l.map ePt)),.p (.int .i64 t),.fn (.func 260) [] []] [.p (.int .i64 (i:Int)),.p (.bool (decide (i<l.length)&&decide ((nth l i).t=t)))]:=by
 obtain ⟨⟨hl1,hl2⟩,hpt⟩:=hl;obtain ⟨hi1,hi2,hi3⟩:=hi;refine Zc [] Tryz.func259 rfl Ztb ?_;simp (disch:=omega) only [Tryz.f259,go_sem,seval];refine Zg [0,1,2,8] (fun q:Nat×Nat=> [(9,.p (.int .i64 q.1)),(10,.p (.int .i64 q.2))]) (fun _=> []) (fun q=>q.1<=i/\i<=q.2/\q.2<=l.length) (fun q=>q.2-q.1) (0,l.length) (by simp;omega) (Weak.mk ?_) ?_
 ·simp (disch:=omega) only [go_sem,seval]
 ·rintro ⟨a,b⟩ ⟨h1,h2,h3⟩;simp only at h1 h2 h3;simp (disch:=omega) only [go_sem,seval];refine cD ?_ ?_<;>intro h<;>simp (disch:=omega) only [Sh.out h,go_sem,seval]
  ·have hm:(a+b) / 2<l.length:=by omega
   obtain ⟨⟨p1,p2,p3,p4⟩,q⟩:=hpt _ hm
   have hs:((a:Int)+(b:Int)).fdiv (2^min 1 64)=(((a+b) / 2:Nat):Int):=by
    rw [Int.fdiv_eq_ediv_of_nonneg _ (by decide)];norm_cast
   have em:((((a+b) / 2:Nat)):Int).toNat=(a+b) / 2:=by omega
   have hnb:((a+b) / 2<i)↔(nth l ((a+b) / 2)).t-t<0:=by
    constructor
    ·intro hh;have:=hi2 _ hh;omega
    ·intro hh
     by_cases g:(a+b) / 2<i
     ·exact g
     ·have:=hi3 _ (by omega) hm;omega
   rw [hs];simp (disch:=omega) only [go_sem,seval];refine (Zif (nth l ((a+b) / 2)) t ⟨p1,p2⟩ ht).use ?_;simp (disch:=omega) only [go_sem,seval];refine cD ?_ ?_<;>intro h4<;>simp (disch:=omega) only [Sh.out h4,go_sem,seval]
   ·exact ⟨((a+b) / 2+1,b),⟨by simp only;have:=hnb.2 h4;omega,h2,h3⟩,by simp only;omega,wk⟩
   ·exact ⟨(a,(a+b) / 2),⟨h1,by simp only;have:=fun g=>h4 (hnb.1 g);omega,by simp only;omega⟩,by simp only;omega,wk⟩
  ·have:a=i:=by omega
   subst this;refine gT ?_ ?_<;>intro h4<;>simp (disch:=omega) only [Sh.out h4,go_sem,seval]
   ·have hm:a<l.length:=by omega
    obtain ⟨⟨p1,p2,p3,p4⟩,q⟩:=hpt _ hm;refine (Zif (nth l a) t ⟨p1,p2⟩ ht).use ?_;simp (disch:=omega) only [go_sem,seval];have e5:((nth l a).t-t=0)=((nth l a).t=t):=propext (by omega);exact we (by simp (disch:=omega) only [e5,hm,go_sem,seval])
   ·have hm: ¬a<l.length:=by omega
    exact we (by simp (disch:=omega) only [hm,go_sem,seval])
theorem Qw {l:List Pt} (hl:Y4 l) {k:Nat} (hk:k<l.length): ∀j,j<k->(nth l j).t<(nth l k).t:=by
 obtain ⟨_,hpt⟩:=hl
 induction k with
 | zero=>intro j hj;omega
 | succ k ih =>
  intro j hj;obtain ⟨_,q⟩:=hpt (k+1) hk;obtain ⟨r1,_⟩:=q (by omega);rw [Nat.add_sub_cancel] at r1;rcases Nat.lt_succ_iff_lt_or_eq.1 hj with h | h
  ·exact Int.lt_trans (ih (by omega) j h) r1
  ·subst h;exact r1
theorem Zm8 {l:List Pt} (hl:Y4 l) (t:Int): ∃i,PosT l t i:=by
 have: ∀n,n<=l.length-> ∃i,i<=n/\(∀j,j<i->(nth l j).t<t)/\(i<n->t<=(nth l i).t):=by
  intro n
  induction n with
  | zero=>intro _;exact ⟨0,by omega,fun j hj=>by omega,fun h=>by omega⟩
  | succ n ih =>
   intro hn;obtain ⟨i,h1,h2,h3⟩:=ih (by omega)
   by_cases g:i<n
   ·exact ⟨i,by omega,h2,fun _=>h3 g⟩
   ·have:i=n:=by omega
    subst this
    by_cases g2:(nth l i).t<t
    ·exact ⟨i+1,by omega,Zl.2 ⟨h2,g2⟩,fun h=>by omega⟩
    ·exact ⟨i,by omega,h2,fun _=>by omega⟩
 obtain ⟨i,h1,h2,h3⟩:=this l.length (Nat.le_refl _);refine ⟨i,h1,h2,fun j hj hjl=> ?_⟩;rcases Nat.lt_or_eq_of_le hj with h | h
 ·have:=Qw hl hjl i h;have:=h3 (by omega);omega
 ·subst h;exact h3 hjl
theorem Zm7 {l:List Pt} {t:Int} {i:Nat} (hl:Y4 l) (h:PosT l t i) (hi:i<l.length) (e:(nth l i).t=t):ZbK l t=(nth l i).a:=by
 by_cases g:i+1<l.length
 ·have m:=Qw hl g i (by omega);rw [ZgI g (fun j hj=> ?_) (by simp [ZcV,e];omega),ZjZ]
  ·rw [e,Int.sub_self,Int.zero_mul,Int.zero_add];rw [Int.ediv_eq_zero_of_lt (by omega) (by omega)];omega
  ·have:(nth l (j+1)).t<=t:=by
    rcases Nat.lt_or_eq_of_le (show j+1<=i by omega) with h1 | h1
    ·have:=h.lo _ h1;omega
    ·rw [h1,e];exact Int.le_refl _
   simp [ZcV];omega
 ·have hi1:i=l.length-1:=by omega
  rw [Zc7 (fun j hj=> ?_)]
  ·split
   ·rw [<- hi1];omega
   ·have:i=0:=by
     by_cases g2:i=0
     ·exact g2
     ·have:=h.lo 0 (by omega);omega
    subst this;omega
  ·have:(nth l (j+1)).t<=t:=by
    rcases Nat.lt_or_eq_of_le (show j+1<=i by omega) with h1 | h1
    ·have:=h.lo _ h1;omega
    ·rw [h1,e];exact Int.le_refl _
   simp [ZcV];omega
theorem ZmO {l:List Pt} {t:Int} (hl:Y4 l) (h:PosT l t 0) (e: ¬(nth l 0).t=t):ZbK l t=t+(nth l 0).a-(nth l 0).t:=by
 have h0:=h.hi 0 (Nat.le_refl _) hl.1.1;rw [Zc7 (fun j hj=> ?_),if_neg (by omega)]
 have:t<(nth l j).t:=by
  by_cases g:j=0
  ·subst g;omega
  ·have:=Qw hl (show j<l.length by omega) 0 (by omega);omega
 simp [ZcV];omega
theorem ZnG {l:List Pt} {t:Int} (h:PosT l t l.length) (hl:0<l.length):ZbK l t=t+(nth l (l.length-1)).a-(nth l (l.length-1)).t:=by
 rw [Zc7 (fun j hj=> ?_),if_pos (h.lo 0 hl)];have:=h.lo (j+1) hj;simp [ZcV];omega
theorem Zjh {l:List Pt} {t:Int} {i:Nat} (h:PosT l t i) (h0:0<i) (hi:i<l.length) (e: ¬(nth l i).t=t):ZbK l t=ZjZ (nth l (i-1)) (nth l i) t:=by
 have e1:i-1+1=i:=by omega
 have h1:=h.lo (i-1) (by omega);have h2:=h.hi i (Nat.le_refl _) hi;have:=ZgI (l:=l) (t:=t) (i:=i-1) (by omega) (fun j hj=>by have:=h.lo (j+1) (by omega);simp [ZcV];omega) (by rw [ZcV,e1];simp;omega);rw [this,e1]
theorem Za2 {p q:Pt} {t:Int} (h1:p.t<=t) (h2:t<q.t) (hp:0<=p.t) (hq:q.t<=4096) (ha:p.a<=q.a) (hpa:0<=p.a) (hqa:q.a<=8192) :
  IntKind.i64.wrap (p.a+IntKind.i64.wrap ((IntKind.i64.wrap (IntKind.i64.wrap (IntKind.i64.wrap ((t-p.t)*(q.a-p.a))+(q.t-p.t))-1)).tdiv (q.t-p.t)))=ZjZ p q t:=by
 have hm:=Zex h1 h2 hp hq ha hpa hqa;unfold ZjZ;generalize hM:(t-p.t)*(q.a-p.a)=m at hm
 have hd:0<=(m+(q.t-p.t)-1) / (q.t-p.t)/\(m+(q.t-p.t)-1) / (q.t-p.t)<=m+(q.t-p.t)-1:=by
  refine ⟨Int.ediv_nonneg (by omega) (by omega),Int.ediv_le_self _ (by omega)⟩
 rw [IntWalk.i64_in m (by omega),IntWalk.i64_in (m+(q.t-p.t)) (by omega),IntWalk.i64_in (m+(q.t-p.t)-1) (by omega),Int.tdiv_eq_ediv_of_nonneg (by omega),IntWalk.i64_in ((m+(q.t-p.t)-1) / (q.t-p.t)) (by omega),IntWalk.i64_in _ (by omega)]
 congr 2
 omega
theorem Zfe (l:List Pt) (c:Bool) (t:Int) (hl:Y4 l) (ht:0<=t/\t<=1073741824):PC 254 [.p (.list c (l.map ePt)),.p (.int .i64 t)] (.int .i64 (ZbK l t)):=by
 obtain ⟨i,hi⟩:=Zm8 hl t;have hl':=hl;obtain ⟨⟨hl1,hl2⟩,hpt⟩:=hl';refine Za Tryz.func254 rfl ZrU ?_;simp (disch:=omega) only [Tryz.f254,go_sem,seval];refine Y7 (Zzb l c t i hl ht hi) ?_;simp (disch:=omega) only [go_sem,seval];obtain ⟨i1,i2,i3⟩:=id hi;refine cD ?_ ?_<;>intro h<;>simp (disch:=omega) only [Sh.out h,go_sem,seval]
 ·obtain ⟨h1,h2⟩:=h;have:=hpt i h1;rw [Zm7 hl hi h1 h2]
 ·refine cD ?_ ?_<;>intro h0<;>simp (disch:=omega) only [Sh.out h0,go_sem,seval]
  ·have:i=0:=by omega
   subst this;obtain ⟨p1,p2⟩:=hpt 0 (by omega);rw [ZmO hl hi (fun g=>h ⟨by omega,g⟩)];refine Zh mixed (by kernel_rfl) (by kernel_rfl) ?_;simp (disch:=omega) only [go_sem,seval]
  ·refine cD ?_ ?_<;>intro h1<;>simp (disch:=omega) only [Sh.out h1,go_sem,seval]
   ·have:i=l.length:=by omega
    subst this;obtain ⟨p1,p2⟩:=hpt (l.length-1) (by omega);rw [ZnG hi (by omega)]
    have e1:((l.length:Int)-1).toNat=l.length-1:=by omega
    refine Zh mixed (by kernel_rfl) (by kernel_rfl) ?_;simp (disch:=omega) only [go_sem,seval]
   ·have g1:i<l.length:=by omega
    rw [Zjh hi (by omega) g1 (fun g=>h ⟨g1,g⟩)];have g2:=Qw hl g1 (i-1) (by omega);obtain ⟨p1,p2⟩:=hpt i g1;obtain ⟨p3,p4⟩:=hpt (i-1) (by omega)
    have e1:((i:Int)-1).toNat=i-1:=by omega
    have q1:=i2 (i-1) (by omega);have q2:=i3 i (Nat.le_refl _) g1;have q3: ¬(nth l i).t=t:=fun g=>h ⟨g1,g⟩;have q4:=p2 (by omega);refine Xo [9,10,11] 12 mixed (by kernel_rfl) (by kernel_rfl) (by kernel_rfl) (by simp) ?_;simp (disch:=omega) only [e1,go_sem,seval];refine VP 9 10 _ _ _ _ (by kernel_rfl) (by simp (disch:=omega) only [go_sem,seval];exact ⟨rfl,rfl⟩) (by simp (disch:=omega) only [go_sem,seval];exact ⟨rfl,rfl⟩) ?_ ?_
    ·refine ZG 10 _ _ (by kernel_rfl) (by simp (disch:=omega) only [go_sem,seval];exact ⟨rfl,rfl⟩) (ZG 11 _ _ (by kernel_rfl) (by simp (disch:=omega) only [go_sem,seval];exact ⟨rfl,rfl⟩) (XV ?_));simp (disch:=omega) only [go_sem,seval];refine Zh mixed (by kernel_rfl) (by kernel_rfl) ?_;simp (disch:=omega) only [go_sem,seval];exact congrArg (fun z=>V.p (PV.int IntKind.i64 z)) (Za2 (by omega) (by omega) (by omega) (by omega) (by omega) (by omega) (by omega))
    ·refine ZG 9 _ _ (by kernel_rfl) (by simp (disch:=omega) only [go_sem,seval];exact ⟨rfl,rfl⟩) (ZG 11 _ _ (by kernel_rfl) (by simp (disch:=omega) only [go_sem,seval];exact ⟨rfl,rfl⟩) (XV ?_));simp (disch:=omega) only [go_sem,seval];refine Zh mixed (by kernel_rfl) (by kernel_rfl) ?_;simp (disch:=omega) only [go_sem,seval];exact congrArg (fun z=>V.p (PV.int IntKind.i64 z)) (Za2 (by omega) (by omega) (by omega) (by omega) (by omega) (by omega) (by omega))
theorem ZgQ (l:List Pt) (c:Bool) (t:Int) (hl:Y4 l) (ht:0<=t/\t<=1073741824):PC 242 [.p (.list c (l.map ePt)),.p (.int .i64 t)] (.int .i64 (ZbK l t)):=by
 refine Za Tryz.func242 rfl ZtC ?_;simp (disch:=omega) only [Tryz.f242,go_sem,seval];refine (ZeC t 0 1073741824).use ?_;simp (disch:=omega) only [go_sem,seval];simp (disch:=omega) only [ht,go_sem,seval];refine (ZoL l c hl).use ?_;simp (disch:=omega) only [go_sem,seval];refine (Zfe l c t hl ht).use ?_;simp (disch:=omega) only [go_sem,seval]
theorem ZdK (n:Net) (p:Int) (hn:n.places.length<=1048576):PC 221 [.p (Zgj n),.p (.int .i64 p)] (.bool (ZbW n p)):=by
 refine Za Tryz.func221 rfl Zts ?_;simp (disch:=omega) only [Tryz.f221,go_sem,seval];refine gT ?_ ?_<;>intro h<;>simp (disch:=omega) only [Sh.out h,go_sem,seval]
 ·simp [ZbW,h]
 ·simp [ZbW,h]
theorem Znx (a:Arc):PC 241 [.p (JU a)] (.agg [.int .i64 a.src,.int .i64 a.dst,.int .i64 a.prof]):=by
 refine Za Tryz.func241 rfl Zrl ?_;simp (disch:=omega) only [Tryz.f241,go_sem,seval]
theorem Zn8 (a:Arc) (t:Int) (ha:ZAi a) (ht:0<=t/\t<=1073741824):PC 223 [.p (JU a),.p (.int .i64 t)] (.int .i64 (Zpt a t)):=by
 obtain ⟨h1,h2,h3⟩:=ha;have hr:=Zd6 h1 ht;have hs:=VQ (t:=t) (fun p hp=>(h3 p hp).2.2);refine Za Tryz.func223 rfl Zri ?_;simp (disch:=omega) only [Tryz.f223,go_sem,seval];refine (ZgQ a.travel a.travel_c t h1 ht).use ?_;simp (disch:=omega) only [go_sem,seval];refine Zg [1,13,14] (fun k:Nat=> [(5,.p (.int .i64 (ZbK a.travel t+JZ a.slow t k))),(15,.p (.int .i64 k))]) (fun _=> [YY a]) (fun k=>k<=a.slow.length) (fun k=>a.slow.length-k) 0 (by simp) (Weak.mk ?_) ?_
 ·simp (disch:=omega) only [YY,JZ,List.foldl_nil,go_sem,seval];simp
 ·intro k hk;have hsk:=hs k hk;simp (disch:=omega) only [YY,go_sem,seval];refine cD ?_ ?_<;>intro h<;>simp (disch:=omega) only [Sh.out h,go_sem,seval]
  ·have hk2:k<a.slow.length:=by omega
   have hp:=h3 _ (Zn hk2);have hsn:=KM (t:=t) hk2;refine cD ?_ ?_<;>intro h4<;>simp (disch:=omega) only [Sh.out h4,go_sem,seval]
   ·rw [if_pos h4] at hsn;exact ⟨k+1,by omega,by omega,Weak.mk (by simp (disch:=omega) only [YY,hsn,Int.add_assoc,go_sem,seval])⟩
   ·rw [if_neg h4] at hsn;exact ⟨k+1,by omega,by omega,Weak.mk (by simp (disch:=omega) only [YY,hsn,go_sem,seval])⟩
  ·have hkl:k=a.slow.length:=by omega
   subst hkl;simp only [Zpt]
theorem Zm3 (n:Net) (pr f t:Int) (hn:n.arcs.length<=1048576):PT 222 [.p (Zgj n),.p (.int .i64 pr),.p (.int .i64 f),.p (.int .i64 t)] [.p (JU (W1 n pr f t).1),.p (.bool (W1 n pr f t).2)]:=by
 refine Zc [] Tryz.func222 rfl Zu9 ?_;simp (disch:=omega) only [Tryz.f222,go_sem,seval];refine Zg [8,10,18,19] (fun k:Nat=> [(20,.p (.int .i64 k))]) (fun _=>Zy n++ [YY Vn,.cells [.p (.int .i64 f),.p (.int .i64 t),.p (.int .i64 pr)]]) (fun k=>k<=n.arcs.length/\ ∀j,j<k->Ua pr f t (nth n.arcs j)=false) (fun k=>n.arcs.length-k) 0 (by simp) (Weak.mk ?_) ?_
 ·simp (disch:=omega) only [Zy,YY,Vn,List.map_nil,List.cons_append,List.nil_append,go_sem,seval]
 ·rintro k ⟨hk,hno⟩;simp (disch:=omega) only [Zy,YY,Vn,List.map_nil,List.cons_append,List.nil_append,go_sem,seval];refine cD ?_ ?_<;>intro h<;>simp (disch:=omega) only [Sh.out h,go_sem,seval]
  ·have hk2:k<n.arcs.length:=by omega
   have nx:Ua pr f t (nth n.arcs k)=false-> ∀j,j<k+1->Ua pr f t (nth n.arcs j)=false:=fun h=>Zl.2 ⟨hno,h⟩;refine Zh mixed (by kernel_rfl) (by kernel_rfl) ?_;simp (disch:=omega) only [go_sem,seval];refine Zk (Znx (nth n.arcs k)) ?_;simp (disch:=omega) only [go_sem,seval];refine cD ?_ ?_<;>intro h1<;>simp (disch:=omega) only [Sh.out h1,go_sem,seval]
   ·have e:=Zjw hk2 hno (by simp [Ua,h1]);obtain ⟨rfl,rfl,rfl⟩:=h1;rw [e];exact we
   ·have e2:Ua pr f t (nth n.arcs k)=false:=by
     cases hq:Ua pr f t (nth n.arcs k) with
     | false=>rfl
     | true=>simp only [Ua,Bool.and_eq_true,decide_eq_true_eq] at hq;exact absurd ⟨hq.1.1,hq.1.2,hq.2⟩ h1
    exact ⟨k+1,⟨by omega,nx e2⟩,by omega,Weak.mk (by simp (disch:=omega) only [Zy,YY,Vn,List.map_nil,List.cons_append,List.nil_append,go_sem,seval])⟩
  ·have hkn:k=n.arcs.length:=by omega
   subst hkn;rw [ZjV hno];exact we (by simp (disch:=omega) only [Vn,List.map_nil,go_sem,seval])
theorem Zvd (n:Net) (pr f t τ:Int) (hn:netR n) (hτ:0<=τ/\τ<=1073741824):PT 192 [.p (Zgj n),.p (.int .i64 pr),.p (.int .i64 f),.p (.int .i64 t),.p (.int .i64 τ)] [.p (.int .i64 (goN n pr f t τ).1),.p (.int .i64 (goN n pr f t τ).2.1),.p (.int .i64 (goN n pr f t τ).2.2)]:=by
 refine Zc [] Tryz.func192 rfl ZrK ?_;simp (disch:=omega) only [Tryz.f192,go_sem,seval];refine (ZdK n f hn.1).use ?_;simp (disch:=omega) only [go_sem,seval];refine gF ?_ ?_<;>intro h1<;>simp (disch:=omega) only [Sh.out h1,go_sem,seval]
 ·have e:goN n pr f t τ=(0,0,11):=by simp only [Bool.not_eq_true'] at h1;simp [goN,h1]
  rw [e];exact we
 ·simp only [Bool.not_eq_false'] at h1;refine (ZdK n t hn.1).use ?_;simp (disch:=omega) only [go_sem,seval];refine cD ?_ ?_<;>intro h2<;>simp (disch:=omega) only [Sh.out h2,go_sem,seval]
  ·have e:goN n pr f t τ=(0,0,11):=by simp only [Bool.not_eq_true'] at h2;simp [goN,h2]
   rw [e];exact we
  ·simp only [Bool.not_eq_false'] at h2;refine cD ?_ ?_<;>intro h3<;>simp (disch:=omega) only [Sh.out h3,go_sem,seval]
   ·have e:goN n pr f t τ=(τ,0,0):=by simp [goN,h1,h2,h3]
    rw [e];exact we
   ·have cf:=Zm3 n pr f t hn.2.1;have hm:= @Jr n pr f t
    have e0:goN n pr f t τ=if (W1 n pr f t).2=true then (Zpt (W1 n pr f t).1 τ,(W1 n pr f t).1.miles,0) else (0,0,12):=by simp [goN,h1,h2,h3]
    rw [e0];generalize W1 n pr f t=A at cf hm ⊢;obtain ⟨a,b⟩:=A;simp only at cf hm ⊢;refine Y7 cf ?_;simp (disch:=omega) only [go_sem,seval];refine cD ?_ ?_<;>intro h4<;>simp (disch:=omega) only [Sh.out h4,go_sem,seval]
    ·have hb:b=false:=by simpa using h4
     subst hb;exact we
    ·have hb:b=true:=by simpa using h4
     subst hb;refine Zh mixed (by kernel_rfl) (by kernel_rfl) ?_;simp (disch:=omega) only [go_sem,seval];refine Zk (Zn8 a τ (hn.2.2 a (hm rfl)) hτ) ?_;simp (disch:=omega) only [go_sem,seval];exact we
def ZhF (s:Stp) (a:Int):Int×Int:=if max a s.opn>s.cls then (0,14) else (max a s.opn,0)
theorem ZhB (s:Stp) (a:Int):PT 224 [.p (ZiL s),.p (.int .i64 a)] [.p (.int .i64 (ZhF s a).1),.p (.int .i64 (ZhF s a).2)]:=by
 refine Zc [] Tryz.func224 rfl Zsa ?_;simp (disch:=omega) only [Tryz.f224,go_sem,seval];refine cD ?_ ?_<;>intro h<;>simp (disch:=omega) only [Sh.out h,go_sem,seval]
 ·have e:ZhF s a=(0,14):=by rw [ZhF,if_pos (by omega)]
  rw [e];exact we
 ·have e:ZhF s a=(max a s.opn,0):=by rw [ZhF,if_neg (by omega)]
  rw [e];exact we
theorem Zj3 (l:List Ord) (c:Bool) (p:Int) (hl:l.length<=1048576):PC 142 [.p (.list c (l.map Vt)),.p (.int .i64 p)] (.bool (decide (0<=p)&&decide (p<(l.length:Int)))):=by
 refine Za Tryz.func142 rfl Zln ?_;simp (disch:=omega) only [Tryz.f142,go_sem,seval];refine gT ?_ ?_<;>intro h<;>simp (disch:=omega) only [Sh.out h,go_sem,seval]
 all_goals simp [h]
theorem Zg9 (x:Inst) (v:Vis) (ho:x.orders.length<=1048576) (hv:inB x v=true) (hp:0<=(Xp x v).place):PT 147 [.p (.list x.orders_c (x.orders.map Vt)),.p (Xi v)] [.p (ZiL (Xp x v)),.p (.int .i64 0)]:=by
 refine Zc [] Tryz.func147 rfl Zt0 ?_;simp (disch:=omega) only [Tryz.f147,go_sem,seval];have hv':=hv;rw [inB] at hv';have ct:=Zj3 x.orders x.orders_c v.order ho;rw [hv'] at ct;refine ct.use ?_;simp only [Bool.and_eq_true,decide_eq_true_eq] at hv';obtain ⟨h1,h2⟩:=hv'
 have hi:v.order.toNat<x.orders.length:=by omega
 simp (disch:=omega) only [go_sem,seval];refine cD ?_ ?_<;>intro hd<;>simp (disch:=omega) only [Sh.out hd,go_sem,seval]
 ·have e:Xp x v=(nth x.orders v.order.toNat).drp:=by simp [Xp,hd]
  rw [e] at hp ⊢
  have e3: ¬(nth x.orders v.order.toNat).drp.place<0:=by omega
  simp (disch:=omega) only [e3,go_sem,seval];exact we
 ·have e:Xp x v=(nth x.orders v.order.toNat).pick:=by simp [Xp,hd]
  rw [e] at hp ⊢
  have e3: ¬(nth x.orders v.order.toNat).pick.place<0:=by omega
  simp (disch:=omega) only [e3,go_sem,seval];exact we
theorem ZnH (l:List Typ) (c:Bool) (ht:l.length<=1048576):PC 208 [.p (.list c (l.map JY))] (.int .i64 (dimsOf l)):=by
 refine Za Tryz.func208 rfl ZqS ?_;simp (disch:=omega) only [Tryz.f208,go_sem,seval];refine cD ?_ ?_<;>intro h1<;>simp (disch:=omega) only [Sh.out h1,go_sem,seval]
 ·have:l.length=0:=by omega
  simp [dimsOf,this]
 ·have h2: ¬l.length=0:=by omega
  simp only [dimsOf,h2,if_false]
theorem ZnA (a b:List Int) (c d:Bool) (ha:a.length<=1048576) (hb:b.length<=1048576):PC 173 [.p (.list c (a.map eI)),.p (.list d (b.map eI))] (.bool (Jm a b)):=by
 refine Za Tryz.func173 rfl ZqP ?_;simp (disch:=omega) only [Tryz.f173,go_sem,seval];refine cD ?_ ?_<;>intro h1<;>simp (disch:=omega) only [Sh.out h1,go_sem,seval]
 ·have: ¬a.length=b.length:=by omega
  simp [Jm,this]
 ·have h1':a.length=b.length:=by omega
  refine Zg [1,12,13] (fun k:Nat=> [(14,.p (.int .i64 k))]) (fun _=> []) (fun k=>k<=a.length/\ ∀j,j<k->nth a j<=nth b j) (fun k=>a.length-k) 0 (by simp) (Weak.mk ?_) ?_
  ·simp (disch:=omega) only [go_sem,seval]
  ·rintro k ⟨hk,hno⟩;simp (disch:=omega) only [go_sem,seval];refine cD ?_ ?_<;>intro h2<;>simp (disch:=omega) only [Sh.out h2,go_sem,seval]
   ·have hk2:k<a.length:=by omega
    refine cD ?_ ?_<;>intro h3<;>simp (disch:=omega) only [Sh.out h3,go_sem,seval]
    ·have:Jm a b=false:=by
      cases hf:Jm a b with
      | false=>rfl
      | true=>simp [Jm,List.all_eq_true] at hf;have:=hf.2 k hk2;omega
     rw [this]
    ·exact ⟨k+1,⟨by omega,Zl.2 ⟨hno,by omega⟩⟩,by omega,wk⟩
   ·have hkl:k=a.length:=by omega
    subst hkl
    have:Jm a b=true:=by
     simp only [Jm,Bool.and_eq_true,decide_eq_true_eq,List.all_eq_true,List.mem_range];exact ⟨h1',fun i hi=>hno i hi⟩
    rw [this]
theorem Zov (t:Typ) (s:Int) (h1:t.skills<9223372036854775808) (h2:s<9223372036854775808):PC 169 [.p (JY t),.p (.int .i64 s)] (.bool (Uw t s)):=by
 refine Za Tryz.func169 rfl ZrC ?_;simp (disch:=omega) only [Tryz.f169,go_sem,seval];refine gT ?_ ?_<;>intro c1<;>simp (disch:=omega) only [Sh.out c1,go_sem,seval]
 ·refine gT ?_ ?_<;>intro c2<;>simp (disch:=omega) only [Sh.out c2,go_sem,seval]
  ·obtain ⟨M,hM⟩: ∃M:Nat,t.skills=(M:Int):=⟨t.skills.toNat,by omega⟩;obtain ⟨S,rfl⟩: ∃S:Nat,s=(S:Int):=⟨s.toNat,by omega⟩;have hb:=JA (S:=S) (M:=M) (by omega)
   have e:Uw t (S:Int)=(List.range 63).all fun i=> !S.testBit i||M.testBit i:=by
    have g1:(0:Int)<=(M:Int):=by omega
    have g2:(0:Int)<=(S:Int):=c2;simp only [Uw,hM,g1,g2,decide_true,Bool.true_and,Int.toNat_natCast]
   have hd:decide (IntKind.i64.wrap ((BitVec.ofInt 64 (S:Int)&&& ~~~BitVec.ofInt 64 (M:Int)).toNat:Int)=0)=((List.range 63).all fun i=> !S.testBit i||M.testBit i):=by
    rw [Bool.eq_iff_iff];simp only [decide_eq_true_eq];exact hb
   rw [e,hM];exact congrArg (fun b=>V.p (PV.bool b)) hd
  ·have: ¬ 0<=s:=by omega
   simp [Uw,this]
 ·have: ¬ 0<=t.skills:=by omega
  simp [Uw,this]
theorem ZuV (a b:Int) (h: -1073741824<=a/\a<=1073741824/\ -1073741824<=b/\b<=1073741824):PC 235 [.p (.int .i64 a),.p (.int .i64 b)] (.int .i64 (a+b)):=by
 refine Za Tryz.func235 rfl ZsJ ?_;simp (disch:=omega) only [Tryz.f235,go_sem,seval]
theorem ZmX (a b:Int) (h: -1073741824<=a/\a<=1073741824/\ -1073741824<=b/\b<=1073741824):PC 236 [.p (.int .i64 a),.p (.int .i64 b)] (.int .i64 (a-b)):=by
 refine Za Tryz.func236 rfl Ztg ?_;simp (disch:=omega) only [Tryz.f236,go_sem,seval]
def mkR (f:Nat->Int) (n k:Nat):List Int:=(List.range n).map fun j=>if j<k then f j else 0
theorem ZmK {f:Nat->Int} {n k:Nat} :(mkR f n k).length=n:=by simp [mkR]
theorem Zjq {f:Nat->Int} {n:Nat} :mkR f n 0=List.replicate n 0:=by
 apply List.ext_getElem (by simp [mkR]);intro i h1 h2;simp [mkR]
theorem Zkn {f:Nat->Int} {n:Nat} :mkR f n n=(List.range n).map f:=by
 apply List.ext_getElem (by simp [mkR]);intro i h1 h2;simp [mkR] at h1 ⊢;omega
theorem ZoD {f:Nat->Int} {n k:Nat} (h:k<n):(mkR f n k).set k (f k)=mkR f n (k+1):=by
 apply List.ext_getElem (by simp [mkR]);intro i h1 h2;rw [List.getElem_set];simp [mkR] at h1 ⊢
 split
 ·rename_i e;subst e;simp
 ·rename_i e
  have:(i<k)↔(i<k+1):=by omega
  simp only [this]
theorem Zbm (a b:List Int) (c d:Bool) (g:FuncId) (f:Int->Int->Int) (hl:a.length=b.length) (ha:a.length<=1048576)
  (hf: ∀j,j<a.length->ACalls Tryz.prog g [.p (.int .i64 (nth a j)),.p (.int .i64 (nth b j))] [] fun x H'=>x= .p (.int .i64 (f (nth a j) (nth b j)))/\H'= []) :
  PT 234 [.p (.list c (a.map eI)),.p (.list d (b.map eI)),.fn (.func g) [] []] [.p (.list false (((List.range a.length).map fun j=>f (nth a j) (nth b j)).map eI)),.p (.int .i64 0)]:=by
 refine Zc [9] Tryz.func234 rfl ZtL ?_;simp (disch:=omega) only [Tryz.f234,go_sem,seval];refine cD ?_ ?_<;>intro h0<;>simp (disch:=omega) only [Sh.out h0,go_sem,seval]
 ·omega
 ·have hz:=Zjq (f:=fun j=>f (nth a j) (nth b j)) (n:=a.length);have hml:=fun k=>ZmK (f:=fun j=>f (nth a j) (nth b j)) (n:=a.length) (k:=k);refine ZZ [9] [0,1,2,8,19] (fun k:Nat=> [(20,.p (.int .i64 k))]) (fun k=> [.elems 1 ((mkR (fun j=>f (nth a j) (nth b j)) a.length k).map eI)]) (fun k=>k<=a.length) (fun k=>a.length-k) 0 (by simp) (Weak.mk ?_) ?_
  ·simp (disch:=omega) only [hz,go_sem,seval];rw [List.map_replicate];rfl
  ·intro k hk;simp (disch:=omega) only [go_sem,seval];refine cD ?_ ?_<;>intro h1<;>simp (disch:=omega) only [Sh.out h1,go_sem,seval]
   ·have hk2:k<a.length:=by omega
    have hs:=ZoD (f:=fun j=>f (nth a j) (nth b j)) (n:=a.length) hk2;have hk3:=hml k;refine Zq 12 mixed (by kernel_rfl) (by kernel_rfl) ?_;simp (disch:=omega) only [go_sem,seval];refine Zk (hf k hk2) ?_;simp (disch:=omega) only [go_sem,seval];simp (disch:=first | omega | (simp only [List.length_cons,List.length_nil,List.length_append,List.length_map,List.length_take,List.length_drop]<;>omega)) only [go_sem,seval];refine ⟨k+1,by omega,by omega,Weak.mk ?_⟩;simp (disch:=omega) only [<- hs,go_sem,seval];rw [List.map_set];rfl
   ·have hkl:k=a.length:=by omega
    subst hkl;rw [<- Zkn];have hk3:=hml a.length;refine Zm (Weak.fz (o:=0) (by rfl)) ?_;refine Zb [] _ _ _ _ ?_;simp (disch:=omega) only [List.map_cons,List.map_nil,List.set_cons_succ,List.set_cons_zero,go_sem,seval];rw [if_pos hk3];exact we
theorem Zmi (a b:List Int) (c d:Bool) (hl:a.length=b.length) (ha:a.length<=1048576) (h: ∀j,j<a.length-> -1073741824<=nth a j/\nth a j<=1073741824/\ -1073741824<=nth b j/\nth b j<=1073741824):PT 209 [.p (.list c (a.map eI)),.p (.list d (b.map eI))] [.p (.list false ((Zir a b).map eI)),.p (.int .i64 0)]:=by
 refine Zc [] Tryz.func209 rfl Zqg ?_;simp (disch:=omega) only [Tryz.f209,go_sem,seval];refine Y7 (Zbm a b c d 235 (fun m n=>m+n) hl ha fun j hj=>ZuV _ _ (h j hj)) ?_;simp (disch:=omega) only [Zir,go_sem,seval];exact we
theorem Zsj (a b:List Int) (c d:Bool) (hl:a.length=b.length) (ha:a.length<=1048576) (h: ∀j,j<a.length-> -1073741824<=nth a j/\nth a j<=1073741824/\ -1073741824<=nth b j/\nth b j<=1073741824):PT 210 [.p (.list c (a.map eI)),.p (.list d (b.map eI))] [.p (.list false ((Zvp a b).map eI)),.p (.int .i64 0)]:=by
 refine Zc [] Tryz.func210 rfl Zum ?_;simp (disch:=omega) only [Tryz.f210,go_sem,seval];refine Y7 (Zbm a b c d 236 (fun m n=>m-n) hl ha fun j hj=>ZmX _ _ (h j hj)) ?_;simp (disch:=omega) only [Zvp,go_sem,seval];exact we
theorem ZjQ (x:Inst) (r:Rte) (ht:0<=r.typ/\r.typ<(x.types.length:Int)) (hv: ∀v∈r.visits,inB x v=true) (hl:r.visits.length<=1048576) (hxl:x.types.length<=1048576) (hol:x.orders.length<=1048576)
  (hs:(XX x r).skills<9223372036854775808) (ho: ∀o∈x.orders,o.skills<9223372036854775808) :
  PC 100 [.p (ZT x),.p (eRte r)] (.int .i64 (if (r.visits.any fun v=> !Uw (XX x r) (nth x.orders v.order.toNat).skills)=true then 18 else 0)):=by
 refine Za Tryz.func100 rfl ZuK ?_;simp (disch:=omega) only [Tryz.f100,go_sem,seval];refine Zg [2,3,8,9] (fun k:Nat=> [(10,.p (.int .i64 k))]) (fun _=> [Ze x,.cells [.p (.int .i64 r.typ),.p (.int .i64 r.start),.p (.list r.rests_c (r.rests.map eB)),.p (.list r.visits_c (r.visits.map Xi))]]) (fun k=>k<=r.visits.length/\ ∀j,j<k->Uw (XX x r) (nth x.orders (nth r.visits j).order.toNat).skills=true) (fun k=>r.visits.length-k) 0 (by simp) (Weak.mk ?_) ?_
 ·simp (disch:=omega) only [Ze,go_sem,seval]
 ·rintro k ⟨hk,hno⟩;simp (disch:=omega) only [Ze,go_sem,seval];refine cD ?_ ?_<;>intro h1<;>simp (disch:=omega) only [Sh.out h1,go_sem,seval]
  ·have hk2:k<r.visits.length:=by omega
   have hin:=hv _ (Zn hk2);simp only [inB,Bool.and_eq_true,decide_eq_true_eq] at hin;obtain ⟨i1,i2⟩:=hin
   have hi:(nth r.visits k).order.toNat<x.orders.length:=by omega
   have ho':=ho _ (Zn hi);refine Zh mixed (by kernel_rfl) (by kernel_rfl) ?_;simp (disch:=omega) only [go_sem,seval];refine Zk (Zov (XX x r) (nth x.orders (nth r.visits k).order.toNat).skills (by omega) (by omega)) ?_;simp (disch:=omega) only [go_sem,seval];refine cD ?_ ?_<;>intro h2<;>simp (disch:=omega) only [Sh.out h2,go_sem,seval]
   ·have:(r.visits.any fun v=> !Uw (XX x r) (nth x.orders v.order.toNat).skills)=true:=by
     rw [List.any_eq_true];exact ⟨_,Zn hk2,h2⟩
    rw [if_pos this]
   ·exact ⟨k+1,⟨by omega,Zl.2 ⟨hno,by simpa using h2⟩⟩,by omega,Weak.mk (by simp (disch:=omega) only [Ze,go_sem,seval])⟩
  ·have: ¬(r.visits.any fun v=> !Uw (XX x r) (nth x.orders v.order.toNat).skills)=true:=by
    rw [List.any_eq_true];rintro ⟨v,hv,e⟩;obtain ⟨j,hj,rfl⟩:=List.mem_iff_getElem.1 hv;have:=hno j (by omega);rw [Zd hj] at this;rw [this] at e;cases e
   rw [if_neg this]
def stF (x:Inst) (d:Nat) (ms:List Int) (k:Nat):List Int:=(ms.take k).foldl (fun s i=>if (nth x.orders i.toNat).pick.place<0 then Zir s (nth x.orders i.toNat).load else s) (List.replicate d 0)
theorem ZdS {x:Inst} {d:Nat} {ms:List Int} {k:Nat} (h:k<ms.length):stF x d ms (k+1)=if (nth x.orders (nth ms k).toNat).pick.place<0 then Zir (stF x d ms k) (nth x.orders (nth ms k).toNat).load else stF x d ms k:=by
 rw [stF,List.take_succ_eq_append_getElem h,List.foldl_append,Zd h];rfl
theorem ZhW {x:Inst} {d:Nat} {ms:List Int} (hms: ∀i∈ms,∀j,j<d->0<=nth (nth x.orders i.toNat).load j/\nth (nth x.orders i.toNat).load j<=1000): ∀k,k<=ms.length->(stF x d ms k).length=d/\ ∀j,j<d->0<=nth (stF x d ms k) j/\nth (stF x d ms k) j<=1000*k
 | 0,_=>by
  refine ⟨by simp [stF],fun j hj=> ?_⟩
  have:nth (stF x d ms 0) j=0:=by
   show nth (List.replicate d 0) j=0
   rw [Zd (by simpa using hj)];simp
  omega
 | k+1,h=>by
  obtain ⟨h1,h2⟩:=ZhW hms k (by omega);rw [ZdS (by omega)]
  split
  ·refine ⟨by simp [Zir,h1],fun j hj=> ?_⟩;have a1:=h2 j hj;have a2:=hms _ (Zn (show k<ms.length by omega)) j hj;rw [Zir,WL (by omega)];omega
  ·exact ⟨h1,fun j hj=>by have:=h2 j hj;omega⟩
theorem ZmW (x:Inst) (S:Int) (d:Nat) (hd:d<=3) (hol:x.orders.length<=1048576) (hms: ∀i∈XS S 63,0<=i/\i<(x.orders.length:Int)) (hml:(XS S 63).length<=63)
  (hld: ∀o∈x.orders,o.load.length=d/\ ∀n∈o.load,0<=n/\n<=1000) :
  PC 207 [.p (ZT x),.p (.int .i64 S),.p (.int .i64 (d:Int))] (.list false ((stF x d (XS S 63) (XS S 63).length).map eI)):=by
 have hmo: ∀i∈XS S 63,i.toNat<x.orders.length:=fun i hi=>by have:=hms i hi;omega
 have hrg:=ZhW (x:=x) (d:=d) (ms:=XS S 63) fun i hi j hj=>by
  obtain ⟨l1,l2⟩:=hld _ (Zn (hmo i hi));exact l2 _ (Zn (by omega))
 refine Za Tryz.func207 rfl ZsN ?_;simp (disch:=omega) only [Tryz.f207,go_sem,seval];refine (JL S).useF ?_;simp (disch:=omega) only [go_sem,seval];refine Zm ((Weak.fz (o:=1) (by rfl)).trans (Weak.fz (o:=2) (by rfl))) ?_;simp (disch:=omega) only [List.map_cons,List.map_nil,List.set_cons_succ,List.set_cons_zero,List.cons_append,List.nil_append,List.length_replicate,eq_self,if_true,go_sem,seval]
 have hz:List.replicate d (PV.int .i64 0)=(stF x d (XS S 63) 0).map eI:=by
  show _=(List.replicate d 0).map eI
  rw [List.map_replicate];rfl
 refine Zg [3,13,14] (fun k:Nat=> [(7,.p (.list false ((stF x d (XS S 63) k).map eI))),(15,.p (.int .i64 k))]) (fun _=> [Ze x,.dead,.dead]) (fun k=>k<=(XS S 63).length) (fun k=>(XS S 63).length-k) 0 (by simp) (Weak.mk ?_) ?_
 ·simp (disch:=omega) only [Ze,hz,go_sem,seval]
 ·intro k hk;have hk1:=hrg k hk;have hsn:=fun h=>ZdS (x:=x) (d:=d) (ms:=XS S 63) (k:=k) h;simp (disch:=omega) only [Ze,go_sem,seval];refine cD ?_ ?_<;>intro h1<;>simp (disch:=omega) only [Sh.out h1,go_sem,seval]
  ·have hk2:k<(XS S 63).length:=by omega
   have hm:=hms _ (Zn hk2);have hi:=hmo _ (Zn hk2);have hlo:=hld _ (Zn hi);have hsn:=hsn hk2;simp (disch:=omega) only [go_sem,seval];refine cD ?_ ?_<;>intro h2<;>simp (disch:=omega) only [Sh.out h2,go_sem,seval]
   ·rw [if_pos h2] at hsn;refine Y7 (Zmi (stF x d (XS S 63) k) (nth x.orders (nth (XS S 63) k).toNat).load false (nth x.orders (nth (XS S 63) k).toNat).load_c (by omega) (by omega) fun j hj=> ?_) ?_
    ·have b1:=hk1.2 j (by omega);have b2:=hlo.2 _ (Zn (show j<(nth x.orders (nth (XS S 63) k).toNat).load.length by omega));omega
    ·simp (disch:=omega) only [go_sem,seval];exact ⟨k+1,by omega,by omega,Weak.mk (by simp (disch:=omega) only [Ze,hsn,go_sem,seval])⟩
   ·rw [if_neg h2] at hsn;exact ⟨k+1,by omega,by omega,Weak.mk (by simp (disch:=omega) only [Ze,hsn,go_sem,seval])⟩
  ·have hkl:k=(XS S 63).length:=by omega
   subst hkl
   trivial
theorem Zfu {p : Nat -> Bool} {n : Nat} (h : ∀ i, n <= i -> p i = false) : ∀ k, n <= k -> (List.range k).filter p = (List.range n).filter p := by
  intro k hk
  induction k with
  | zero => have : n = 0 := by omega
            subst this; rfl
  | succ k ih =>
    by_cases e : n = k + 1
    · subst e; rfl
    · rw [List.range_succ, List.filter_append, ih (by omega)]
      simp [h k (by omega)]
theorem ZCN {x:Inst} {l:List Vis} (hi:Inr x l) (hn:x.orders.length<=10):XS ((XA l:Nat):Int) 63=((List.range x.orders.length).filter fun (i:Nat)=>hasO l (i:Int)).map fun (i:Nat)=>(i:Int):=by
 have key: ∀i:Nat,i<=62->sHas ((XA l:Nat):Int) (i:Int)=hasO l (i:Int):=fun i h=>by
  rw [XB _ _ h,Bool.eq_iff_iff,WV,ZV]
  constructor
  ·rintro ⟨v,hv,e⟩;exact ⟨v,hv,by have:=hi v hv;omega⟩
  ·rintro ⟨v,hv,e⟩;exact ⟨v,hv,by omega⟩
 unfold XS;rw [List.filter_congr (q:=fun (i:Nat)=>hasO l (i:Int)) (fun i hm=>key i (by have:=List.mem_range.1 hm;omega)),Zfu (n:=x.orders.length) (fun i h=> ?_) 63 (by omega)]
 cases hh:hasO l (i:Int) with
 | false=>rfl
 | true =>
  obtain ⟨v,hv,e⟩:=ZV.1 hh;have:=hi v hv;omega
theorem ZmT {x:Inst} {d:Nat} : ∀(L:List Nat) (g:Nat->Int),(L.map fun (i:Nat)=>(i:Int)).foldl (fun s (i:Int)=>if (nth x.orders i.toNat).pick.place<0 then Zir s (nth x.orders i.toNat).load else s) ((List.range d).map g)=(List.range d).map fun j=>g j+(L.map fun i=>if (nth x.orders i).pick.place<0 then nth (nth x.orders i).load j else 0).sum
 | [],g=>by simp
 | i::L,g=>by
  rw [List.map_cons,List.foldl_cons,Int.toNat_natCast]
  by_cases h:(nth x.orders i).pick.place<0
  ·have e:Zir ((List.range d).map g) (nth x.orders i).load=(List.range d).map fun j=>g j+nth (nth x.orders i).load j:=by
    rw [Zir,List.length_map,List.length_range]
    exact List.map_congr_left fun j hj=>by rw [WL (List.mem_range.1 hj)]
   rw [if_pos h,e,ZmT L];refine List.map_congr_left fun j _=> ?_;rw [List.map_cons,List.sum_cons,if_pos h];omega
  ·rw [if_neg h,ZmT L];refine List.map_congr_left fun j _=> ?_;rw [List.map_cons,List.sum_cons,if_neg h];omega
theorem ZgU {x:Inst} {l:List Vis} (hi:Inr x l) (hn:x.orders.length<=10):stF x (dimsOf x.types).toNat (XS ((XA l:Nat):Int) 63) (XS ((XA l:Nat):Int) 63).length=Qa x l 0:=by
 rw [stF,List.take_length,ZCN hi hn];have:=ZmT (x:=x) (d:=(dimsOf x.types).toNat) ((List.range x.orders.length).filter fun (i:Nat)=>hasO l (i:Int)) fun _=>0
 have e:(List.range (dimsOf x.types).toNat).map (fun _=>(0:Int))=List.replicate (dimsOf x.types).toNat 0:=by
  rw [List.map_const',List.length_range]
 rw [e] at this;rw [this,Qa];refine List.map_congr_left fun j _=> ?_;rw [Int.zero_add,Uj,ZhN]
 congr 1
 refine List.map_congr_left fun i _=> ?_;rw [ZiS]
 by_cases h:(nth x.orders i).pick.place<0<;>cases hasO l (i:Int)<;>simp [h]
theorem Zjv {x:Inst} {l:List Vis} {n j:Nat} {d:Nat} (hj:j<d) (hld: ∀o∈x.orders,o.load.length=d/\ ∀n∈o.load,0<=n/\n<=1000) (hn:x.orders.length<=10):0<=ZhN x l n j/\ZhN x l n j<=10000:=by
 have key:=Zhm (f:=fun i=>if i<x.orders.length then (if (onB x l n i&&hasO l i)=true then nth (nth x.orders i).load j else 0) else 0) (b:=1000) (by omega) (fun q=>by
  split
  ·rename_i hq
   split
   ·obtain ⟨h1,h2⟩:=hld _ (Zn hq);exact h2 _ (Zn (by omega))
   ·omega
  ·omega) x.orders.length
 have e:ZhN x l n j=((List.range x.orders.length).map fun i=>if i<x.orders.length then (if (onB x l n i&&hasO l i)=true then nth (nth x.orders i).load j else 0) else 0).sum:=by
  rw [ZhN]
  congr 1
  exact List.map_congr_left fun i hi=>by rw [if_pos (List.mem_range.1 hi)]
 rw [e]
 have:(1000:Int)*x.orders.length<=10000:=by omega
 omega
theorem Zka {x:Inst} {l:List Vis} {n j:Nat} (hj:j<(dimsOf x.types).toNat) (hd:LdOk x):0<=nth (Qa x l n) j/\nth (Qa x l n) j<=10000:=by
 rw [Qa,WL hj];exact Zjv hj (fun o ho=>by obtain ⟨h1,h2⟩:=hd.load o ho;exact ⟨by omega,h2⟩) hd.ord
def gIx {α:Type} (f:α->Bool) (l:List α):Int:=match l.findIdx? f with | some i=>(i:Int) | none=> -1
theorem Zma {α:Type} [Inhabited α] {f:α->Bool} {l:List α} {k:Nat} (hk:k<l.length) (h:f (nth l k)=true) (hno: ∀j,j<k->f (nth l j)=false):gIx f l=(k:Int):=by
 have:l.findIdx? f=some k:=by
  rw [List.findIdx?_eq_some_iff_getElem];refine ⟨hk,by rw [<- Zd hk];exact h,fun j hj=> ?_⟩;have h2:=hno j hj;rw [Zd (by omega)] at h2;simpa using h2
 simp [gIx,this]
theorem Zlu {α:Type} [Inhabited α] {f:α->Bool} {l:List α} (hno: ∀j,j<l.length->f (nth l j)=false):gIx f l= -1:=by
 have:l.findIdx? f=none:=by
  rw [List.findIdx?_eq_none_iff];intro x hx;obtain ⟨j,hj,rfl⟩:=List.mem_iff_getElem.1 hx;rw [<- Zd hj];exact hno j hj
 simp [gIx,this]
theorem Zlk {α:Type} {f:α->Bool} {l:List α} :decide (0<=gIx f l)=l.any f:=by
 unfold gIx
 cases h:l.findIdx? f with
 | none =>
  rw [List.findIdx?_eq_none_iff] at h
  have:l.any f=false:=by rw [List.any_eq_false];intro x hx;simp [h x hx]
  simp [this]
 | some i =>
  rw [List.findIdx?_eq_some_iff_getElem] at h;obtain ⟨h1,h2,_⟩:=h
  have:l.any f=true:=by rw [List.any_eq_true];exact ⟨l[i],List.getElem_mem _,h2⟩
  simp [this]
theorem Zhi (l:List (List Int)) (c:Bool) (g:FuncId) (caps:List V) (H:List AM.Obj) (f:List Int->Bool) (hl:l.length<=1048576) (hW:wkH H H.length H H) (hc:ZR H.length caps=true)
  (hg: ∀v∈l,ACalls Tryz.prog g (.p (eIL v)::caps) H fun x H'=>x= .p (.bool (f v))/\H'=H) :
  ACalls Tryz.prog 211 [.p (.list c (l.map eIL)),.fn (.func g) [] caps] H fun x H'=>x= .p (.int .i64 (gIx f l))/\H'=H:=by
 refine Xh Tryz.func211 rfl Zsm (Zb [] _ _ _ _ ?_);simp (disch:=omega) only [Tryz.f211,go_sem,seval];refine Zg [0,1,7] (fun k:Nat=> [(8,.p (.int .i64 k))]) (fun _=>H) (fun k=>k<=l.length/\ ∀j,j<k->f (nth l j)=false) (fun k=>l.length-k) 0 (by simp) (Weak.mk ?_) ?_
 ·simp (disch:=omega) only [hW,hc,go_sem,seval];simp
 ·rintro k ⟨hk,hno⟩;simp (disch:=omega) only [go_sem,seval];refine cD ?_ ?_<;>intro h<;>simp (disch:=omega) only [Sh.out h,go_sem,seval]
  ·have hk2:k<l.length:=by omega
   have hgk:=hg (nth l k) (ZC hk2);simp (disch:=omega) only [ZuJ,go_sem,seval] at hgk;refine hgk.useH ?_;simp (disch:=omega) only [go_sem,seval];refine cD ?_ ?_<;>intro h2<;>simp (disch:=omega) only [Sh.out h2,go_sem,seval]
   ·rw [Zma hk2 h2 hno]
   ·have h3:f (nth l k)=false:=by simpa using h2
    refine ⟨k+1,⟨by omega,Zl.2 ⟨hno,h3⟩⟩,by omega,Weak.mk ?_⟩;simp (disch:=omega) only [hW,hc,go_sem,seval];simp
  ·have hkl:k=l.length:=by omega
   subst hkl;rw [Zlu hno]
theorem Za9 (l:List (List Int)) (c:Bool) (g:FuncId) (caps:List V) (H:List AM.Obj) (f:List Int->Bool) (hl:l.length<=1048576) (hW:wkH H H.length H H) (hc:ZR H.length caps=true)
  (hg: ∀v∈l,ACalls Tryz.prog g (.p (eIL v)::caps) H fun x H'=>x= .p (.bool (f v))/\H'=H) :
  ACalls Tryz.prog 171 [.p (.list c (l.map eIL)),.fn (.func g) [] caps] H fun x H'=>x= .p (.bool (l.any f))/\H'=H:=by
 refine Xh Tryz.func171 rfl ZqN (Zb [] _ _ _ _ ?_);simp (disch:=omega) only [Tryz.f171,go_sem,seval];refine (Zhi l c g caps H f hl hW hc hg).useH ?_;simp (disch:=omega) only [go_sem,seval];rw [Zlk]
theorem ZlE (x:Inst) (r:Rte) (hx:InstOk x) (hl:r.visits.length<=1048576):PC 99 [.p (ZT x),.p (eRte r)] (.int .i64 (Xm x r.visits)):=by
 have hf:=Z4 hx;obtain ⟨h1,h2⟩:=List.append_eq_nil_iff.1 hx.rules
 have ha:x.apart.length<=1048576:=by
  have h3:=(List.append_eq_nil_iff.1 h1).1;unfold hdr at h3
  split at h3
  ·simp at h3
  ·omega
 have hb:x.before.length<=1048576:=by
  have h3:=(List.append_eq_nil_iff.1 h2).1;unfold hdr at h3
  split at h3
  ·simp at h3
  ·omega
 exact ZeX x r (by have:=hf.len;omega) hl ha hb
theorem Zhd {x:Inst} {l:List Vis} (hi:Inr x l) (hn:x.orders.length<=10):ZfO l=(((XA l:Nat):Int),0):=by
 rw [ZfO,if_pos];rw [List.all_eq_true];intro v hv;have:=hi v hv;simp [inS];omega
theorem ZtT {α:Type} (f:Nat->α) (n:Nat):(List.range n).map f++ [f n]=(List.range (n+1)).map f:=by rw [List.range_succ,List.map_append];rfl
theorem ZkE (x:Inst) (r:Rte) (hx:InstOk x) (hl:r.visits.length<=1048576) (h0:Xm x r.visits=0) :
  PT 170 [.p (ZT x),.p (eRte r)] [.p (.list false ((ZcG x r.visits).map eIL)),.p (.int .i64 0)]:=by
 have hd:=Je hx;have hsq:=Wg h0;have hol:=hd.ord;have hso:=Vu r hl;rw [Zhd hsq.inr hol] at hso
 have hD:dimsOf x.types=((dimsOf x.types).toNat:Int):=by have:=hd.dim;omega
 have cd:=ZnH x.types x.types_c hd.typ;rw [hD] at cd;have hst:=ZgU hsq.inr hol
 have hmem: ∀i∈XS ((XA r.visits:Nat):Int) 63,0<=i/\i<(x.orders.length:Int):=fun i hi=>by
  rw [ZCN hsq.inr hol] at hi;obtain ⟨j,hj,rfl⟩:=List.mem_map.1 hi;have:=List.mem_range.1 (List.mem_filter.1 hj).1;omega
 have cs:=ZmW x ((XA r.visits:Nat):Int) (dimsOf x.types).toNat (by have:=hd.dim;omega) (by omega) hmem (Qt _ _) (fun o ho=>by have:=hd.load o ho;exact ⟨by omega,this.2⟩);rw [hst] at cs;refine Zc [20] Tryz.func170 rfl Ztp ?_;simp (disch:=omega) only [Tryz.f170,go_sem,seval];refine (ZlE x r hx hl).use ?_;simp (disch:=omega) only [go_sem,seval];simp (disch:=omega) only [h0,go_sem,seval];refine Y7 hso ?_;simp (disch:=omega) only [go_sem,seval];refine Zh mixed (by kernel_rfl) (by kernel_rfl) ?_;simp (disch:=omega) only [go_sem,seval]
 refine Zk (cd) ?_;simp (disch:=omega) only [go_sem,seval];refine Zk (cs) ?_;simp (disch:=omega) only [go_sem,seval];refine ZZ [20] [2,37,38] (fun q:Nat×List (List Int)=> [(9,.p (.list false ((Qa x r.visits q.1).map eI))),(10,.sl 2 0 q.2.length q.2.length),(39,.p (.int .i64 q.1))]) (fun q=> [Ze x,Xd r,.elems 1 (q.2.map eIL)]) (fun q=>q.1<=r.visits.length/\q.2=(List.range (q.1+1)).map (Qa x r.visits)) (fun q=>r.visits.length-q.1) (0,[Qa x r.visits 0]) (by simp) (Weak.mk ?_) ?_
 ·simp (disch:=omega) only [Ze,Xd,List.map_nil,List.map_cons,List.length_nil,List.length_cons,List.cons_append,List.nil_append,go_sem,seval]
 ·rintro ⟨k,o⟩ ⟨hk,ho⟩;simp only at hk ho
  have hol2:o.length=k+1:=by rw [ho];simp
  simp (disch:=omega) only [Ze,Xd,go_sem,seval];refine cD ?_ ?_<;>intro h1<;>simp (disch:=omega) only [Sh.out h1,go_sem,seval]
  ·have hk2:k<r.visits.length:=by omega
   obtain ⟨v1,v2⟩:=hsq.inr _ (ZC hk2)
   have hi:(nth r.visits k).order.toNat<x.orders.length:=by omega
   obtain ⟨l1,l2⟩:=hd.load _ (Zn hi);have hsu:=Zga hsq hk2;have hal:=Qx (x:=x) (l:=r.visits) (n:=k);have hdm:=hd.dim
   have hrg: ∀j,j<(Qa x r.visits k).length-> -1073741824<=nth (Qa x r.visits k) j/\nth (Qa x r.visits k) j<=1073741824/\ -1073741824<=nth (nth x.orders (nth r.visits k).order.toNat).load j/\nth (nth x.orders (nth r.visits k).order.toNat).load j<=1073741824:=fun j hj=>by
    have b1:=Zka (x:=x) (l:=r.visits) (n:=k) (j:=j) (by omega) hd;have b2:=l2 _ (Zn (show j<(nth x.orders (nth r.visits k).order.toNat).load.length by omega));omega
   refine cD ?_ ?_<;>intro h2<;>simp (disch:=omega) only [Sh.out h2,go_sem,seval]
   ·rw [if_pos h2] at hsu;refine Y7 (Zsj (Qa x r.visits k) (nth x.orders (nth r.visits k).order.toNat).load false (nth x.orders (nth r.visits k).order.toNat).load_c (by omega) (by omega) hrg) ?_;simp (disch:=omega) only [go_sem,seval];exact ⟨(k+1,o++ [Qa x r.visits (k+1)]),⟨by simp only;omega,by simp only;rw [ho,ZtT]⟩,by simp only;omega,Weak.mk (by simp (disch:=omega) only [Ze,Xd,hsu,List.length_append,List.length_cons,List.length_nil,List.map_append,List.map_cons,List.map_nil,go_sem,seval])⟩
   ·rw [if_neg (by rw [h2];simp)] at hsu;refine Y7 (Zmi (Qa x r.visits k) (nth x.orders (nth r.visits k).order.toNat).load false (nth x.orders (nth r.visits k).order.toNat).load_c (by omega) (by omega) hrg) ?_;simp (disch:=omega) only [go_sem,seval];exact ⟨(k+1,o++ [Qa x r.visits (k+1)]),⟨by simp only;omega,by simp only;rw [ho,ZtT]⟩,by simp only;omega,Weak.mk (by simp (disch:=omega) only [Ze,Xd,hsu,List.length_append,List.length_cons,List.length_nil,List.map_append,List.map_cons,List.map_nil,go_sem,seval])⟩
  ·have hkl:k=r.visits.length:=by omega
   subst hkl;refine Zm (Weak.fz (o:=2) (by rfl)) ?_;refine Zb [] _ _ _ _ ?_;simp (disch:=omega) only [List.map_cons,List.map_nil,List.set_cons_succ,List.set_cons_zero,go_sem,seval];rw [ZcG,<- ho];exact we
theorem Zor (x:Inst) (r:Rte) (a:List Int) (htl:x.types.length<=1048576) (hty:0<=r.typ/\r.typ<(x.types.length:Int)) (ha:a.length<=1048576) (hc:(XX x r).cap.length<=1048576) :
  ACalls Tryz.prog 172 [.p (eIL a),.ptr 0 0,.ptr 1 0] [Ze x,Xd r] fun y H'=>y= .p (.bool (!Jm a (XX x r).cap))/\H'= [Ze x,Xd r]:=by
 have hti:r.typ.toNat<x.types.length:=by omega
 refine Zc [] Tryz.func172 rfl Zq4 ?_;simp (disch:=omega) only [Tryz.f172,Ze,Xd,go_sem,seval];refine (ZnA a (XX x r).cap false (XX x r).cap_c ha hc).use ?_;simp (disch:=omega) only [go_sem,seval];exact we (by simp (disch:=omega) only [Ze,Xd,go_sem,seval])
theorem ZkP (x:Inst) (r:Rte) (hx:InstOk x) (hl:r.visits.length<=1048576) (hty:0<=r.typ/\r.typ<(x.types.length:Int)) (h0:Xm x r.visits=0) :
  PC 101 [.p (ZT x),.p (eRte r)] (.int .i64 (if Zc1 x (XX x r).cap r.visits=true then 0 else 17)):=by
 have hd:=Je hx;have htl:=hd.typ
 have hti:r.typ.toNat<x.types.length:=by omega
 have hcp:(XX x r).cap.length<=1048576:=by
  have hcap:=hx.types.2 _ hti;unfold K6 at hcap;obtain ⟨⟨⟨⟨⟨⟨⟨⟨_,_⟩,_⟩,_⟩,hcap⟩,_⟩,_⟩,_⟩,_⟩:=hcap;simp only [VN,Bool.and_eq_true,decide_eq_true_eq,rng] at hcap;unfold XX;omega
 have hll:(ZcG x r.visits).length=r.visits.length+1:=by simp [ZcG]
 have hvl:=(Wg h0).len hd.ord
 have hall:(ZcG x r.visits).any (fun a=> !Jm a (XX x r).cap)= !Zc1 x (XX x r).cap r.visits:=by
  rw [Zc1,ZcG,List.any_map,List.not_all_eq_any_not];rfl
 have e1: ¬r.typ<0:=by omega
 have e2: ¬(x.types.length:Int)<=r.typ:=by omega
 refine Za Tryz.func101 rfl Zsb ?_;simp (disch:=omega) only [Tryz.f101,e1,e2,go_sem,seval];refine Y7 (ZkE x r hx hl h0) ?_;simp (disch:=omega) only [go_sem,seval];refine (Za9 (ZcG x r.visits) false 172 [.ptr 0 0,.ptr 1 0] [Ze x,Xd r] (fun a=> !Jm a (XX x r).cap) (by omega) (by simp (disch:=omega) only [Ze,Xd,go_sem,seval]) (by rfl) (fun a ha=>Zor x r a htl hty ?_ hcp)).useH ?_
 ·obtain ⟨j,_,rfl⟩:=List.mem_map.1 ha;rw [Qx];have:=hd.dim;omega
 ·simp (disch:=omega) only [Ze,Xd,go_sem,seval];rw [hall];refine cD ?_ ?_<;>intro h1<;>simp (disch:=omega) only [Sh.out h1,go_sem,seval]
  ·rw [if_neg (by simpa using h1)]
  ·rw [if_pos (by simpa using h1)]
set_option maxRecDepth 60000
theorem Zfy (a b:Vis):PC 71 [.p (Xi a),.p (Xi b)] (.int .i64 (Vk a.order b.order)):=by
 refine Za Tryz.func71 rfl ZBs ?_;simp (disch:=omega) only [Tryz.f71,go_sem,seval];refine (Zab a.order b.order).use ?_;simp (disch:=omega) only [go_sem,seval]
theorem ZjO {l:List Vis} {k:Nat} (h0:0<k) (hk:k<l.length):U6 (l.take (k+1))=if (nth l k).order<U6 (l.take k) then (nth l k).order else U6 (l.take k):=by
 cases l with
 | nil=>simp at hk
 | cons v m =>
  obtain ⟨j,rfl⟩: ∃j,k=j+1:=⟨k-1,by omega⟩
  have hj:j<m.length:=by simpa using hk
  rw [List.take_succ_cons,List.take_succ_cons,U6,U6,List.take_succ_eq_append_getElem hj,List.foldl_append];simp only [List.foldl_cons,List.foldl_nil];rw [show nth (v::m) (j+1)=m[j] from Zd (l:=m) hj]
theorem ZdJ {a b:Int} :Vk a b<0↔a<b:=by
 unfold Vk
 split
 ·simp_all
 ·split<;>simp_all
theorem Zhg (l:List Vis) (c:Bool) (hl:l.length<=1048576) (h0:0<l.length) :
  ACalls Tryz.prog 70 [.p (.list c (l.map Xi)),.fn (.func 71) [] []] [] fun x H'=> ∃v:Vis,v.order=U6 l/\x= .p (Xi v)/\H'= []:=by
 refine ACalls.pureE (Xh Tryz.func70 rfl Zzk (Zb [] _ _ _ _ ?_))
 have h1: ¬(l.length:Int)<1:=by omega
 have e0:elt (l.map Xi) 0=Xi (nth l 0):=Z2 h0;simp (disch:=first | omega | (simp only [List.length_cons,List.length_nil,List.length_append,List.length_map,List.length_take,List.length_drop]<;>omega)) only [Tryz.f70,h1,e0,h0,go_sem,seval]
 have et:U6 (l.take 1)=(nth l 0).order:=by
  cases l with
  | nil=>simp at h0
  | cons v m=>rfl
 refine Zg [0,1,4,5] (fun k:Nat×Vis=> [(6,.p (.int .i64 k.1))]) (fun k=> [.cells [.p (.int .i64 0),.p (.bool false)],.cells [.p (.int .i64 k.2.order),.p (.bool k.2.drp)]]) (fun k=>1<=k.1/\k.1<=l.length/\k.2.order=U6 (l.take k.1)) (fun k=>l.length-k.1) (1,nth l 0) ⟨by simp,by simp only;omega,et.symm⟩ (Weak.mk ?_) ?_
 ·simp (disch:=omega) only [go_sem,seval]
 ·rintro ⟨k,v⟩ ⟨hk0,hk,hv⟩;simp only at hk0 hk hv;simp (disch:=omega) only [go_sem,seval];refine cD ?_ ?_<;>intro h2<;>simp (disch:=omega) only [Sh.out h2,go_sem,seval]
  ·have hk2:k<l.length:=by omega
   have htk:=ZjO hk0 hk2;rw [<- hv] at htk;refine Zh mixed (by kernel_rfl) (by kernel_rfl) ?_;simp (disch:=omega) only [go_sem,seval];refine Zk (Zfy (nth l k) v) ?_;simp (disch:=omega) only [go_sem,seval];refine cD ?_ ?_<;>intro h3<;>simp (disch:=omega) only [Sh.out h3,go_sem,seval]
   ·rw [ZdJ] at h3;rw [if_pos h3] at htk;exact ⟨(k+1,nth l k),⟨by simp,by simp only;omega,htk.symm⟩,by simp only;omega,wk⟩
   ·rw [ZdJ] at h3;rw [if_neg h3] at htk;exact ⟨(k+1,v),⟨by simp,by simp only;omega,htk.symm⟩,by simp only;omega,wk⟩
  ·have hkl:k=l.length:=by omega
   subst hkl;rw [List.take_length] at hv;exact ⟨v,hv,rfl⟩
theorem ZbV (r:Rte) (hl:r.visits.length<=1048576):PC 41 [.p (eRte r)] (.int .i64 (U6 r.visits)):=by
 refine Za Tryz.func41 rfl ZA1 ?_;simp (disch:=omega) only [Tryz.f41,go_sem,seval];refine cD ?_ ?_<;>intro h1<;>simp (disch:=omega) only [Sh.out h1,go_sem,seval]
 ·have e:r.visits= []:=List.length_eq_zero_iff.1 (by omega);rw [e];simp [U6]
 ·refine ((Zhg r.visits r.visits_c hl (by omega)).behind (by rfl) _).mono ?_;rintro x H' ⟨y,H1,⟨v,hv,rfl,rfl⟩,rfl,rfl⟩;simp (disch:=omega) only [shV,hv,go_sem,seval]
theorem Znr (a b c d:Int):orI [Vk a b,Vk c d]<0↔(a<b\/a=b/\c<d):=by
 rw [KR];unfold Vk
 split
 ·split at* <;>(try split at *)<;>(try split)<;>omega
 ·omega
def ZzX (a b:Rte):Int:=orI [Vk a.typ b.typ,Vk (U6 a.visits) (U6 b.visits)]
theorem ZeS {a b:Rte} :ZzX a b<0↔Ut a b=true:=by
 rw [ZzX,Znr];simp [Ut]
theorem ZhP (a b:Rte) (ha:a.visits.length<=1048576) (hb:b.visits.length<=1048576):PC 38 [.p (eRte a),.p (eRte b)] (.int .i64 (ZzX a b)):=by
 refine Za Tryz.func38 rfl ZAf ?_;simp (disch:=omega) only [Tryz.f38,go_sem,seval];refine Zh mixed (by kernel_rfl) (by kernel_rfl) ?_;simp (disch:=omega) only [go_sem,seval];refine Zk (Zab a.typ b.typ) ?_;simp (disch:=omega) only [go_sem,seval];refine Zk (ZbV a ha) ?_;simp (disch:=omega) only [go_sem,seval];refine Zk (ZbV b hb) ?_;simp (disch:=omega) only [go_sem,seval];refine Zk (Zab (U6 a.visits) (U6 b.visits)) ?_;simp (disch:=omega) only [go_sem,seval];refine Zk (Zwi [Vk a.typ b.typ,Vk (U6 a.visits) (U6 b.visits)] false (by simp)) ?_
 simp (disch:=omega) only [go_sem,seval]
 rfl
def Xw (U:List Int) (m:List Rte):List AM.Obj:= [.elems 4 (m.map eRte),.elems 1 (U.map eI)]
theorem Zg7 (U:List Int) (l:List Rte) (hl:l.length<=1048576) (hv: ∀r∈l,r.visits.length<=1048576) :
  ACalls Tryz.prog 105 [.sl 0 0 l.length l.length,.p (.int .i64 0),.p (.int .i64 l.length),.fn (.func 38) [] []] (Xw U l) fun y H'=>y= .tup []/\H'=Xw U (QF Ut l.length l):=by
 refine Zc [] Tryz.func105 rfl Zs5 ?_;simp (disch:=omega) only [Tryz.f105,go_sem,seval]
 refine Zg [0,1,2,3] (fun q:Nat=> [(8,.p (.int .i64 q))]) (fun q=>Xw U (QF Ut q l))
  (fun q=>1<=q/\(q<=l.length\/q=1)) (fun q=>l.length-q) 1 ⟨by omega,by omega⟩ (Weak.mk ?_) ?_
 ·simp (disch:=omega) only [Xw,QF,dnF,go_sem,seval]
 ·rintro i ⟨hi,hi1⟩;simp (disch:=omega) only [Xw,go_sem,seval];refine cD ?_ ?_<;>intro h1<;>simp (disch:=omega) only [Sh.out h1,go_sem,seval]
  ·have hi2:i<l.length:=by omega
   have hsl:=ZeA (lt:=Ut) (l:=l) (i:=i) (by omega);have hmem: ∀r∈QF Ut i l,r∈l:=fun r h=>(Jp (lt:=Ut) (l:=l) i (by omega)).mem_iff.1 h;obtain ⟨M2,hM2⟩: ∃M2,M2=QF Ut (i+1) l:=⟨_,rfl⟩;have hsu:M2=dnF Ut i (QF Ut i l):=hM2
   generalize QF Ut i l=M at *
   refine Zg [0,1,2,3,8] (fun q:Nat×List Rte=> [(9,.p (.int .i64 q.1))]) (fun q=>Xw U q.2)
    (fun q=>q.1<=i/\q.2.length=l.length/\(∀r∈q.2,r∈l)/\M2=dnF Ut q.1 q.2) (fun q=>q.1) (i,M) ⟨by simp,hsl,hmem,hsu⟩ (Weak.mk ?_) ?_
   ·simp (disch:=omega) only [Xw,go_sem,seval]
   ·clear hsl hmem hsu;rintro ⟨j,m⟩ ⟨hj,hml,hm,hd⟩;simp only at hj hml hm hd
    have hj2:j<m.length:=by omega
    simp (disch:=omega) only [Xw,go_sem,seval];refine Zh mixed (by kernel_rfl) (by kernel_rfl) ?_;simp (disch:=omega) only [go_sem,seval]
    have e1:((j:Int)-1).toNat=j-1:=by omega
    refine gT ?_ ?_<;>intro h2<;>simp (disch:=omega) only [Sh.out h2,go_sem,seval]
    ·have he1:elt (m.map eRte) j=eRte (nth m j):=Z2 hj2;have he2:elt (m.map eRte) (j-1)=eRte (nth m (j-1)):=Z2 (by omega)
     have hj3:j<l.length:=by omega
     have hj4:j-1<l.length:=by omega
     simp (disch:=first | omega | (simp only [List.length_cons,List.length_nil,List.length_append,List.length_map,List.length_take,List.length_drop]<;>omega)) only [e1,he1,he2,hml,hj3,hj4,eq_self,true_and,if_true,go_sem,seval];refine Zk (ZhP (nth m j) (nth m (j-1)) (hv _ (hm _ (Zn hj2))) (hv _ (hm _ (Zn (by omega))))) ?_;simp (disch:=omega) only [go_sem,seval];refine cD ?_ ?_<;>intro h3<;>simp (disch:=omega) only [Sh.out h3,go_sem,seval]
     ·rw [ZeS] at h3;refine ZeV [15] 16 mixed (by kernel_rfl) (by kernel_rfl) (by kernel_rfl) (by kernel_rfl) (by simp) ?_;simp (disch:=first | omega | (simp only [List.length_cons,List.length_nil,List.length_append,List.length_map,List.length_take,List.length_drop]<;>omega)) only [e1,he1,he2,hml,hj3,hj4,eq_self,true_and,if_true,go_sem,seval]
      have ZcF:(m.map eRte).set j (.agg [.int .i64 (nth m (j-1)).typ,.int .i64 (nth m (j-1)).start,.list (nth m (j-1)).rests_c ((nth m (j-1)).rests.map eB),.list (nth m (j-1)).visits_c ((nth m (j-1)).visits.map Xi)])=(m.set j (nth m (j-1))).map eRte:=by rw [List.map_set];rfl
      have hl1:(m.set j (nth m (j-1))).length=l.length:=by simp [hml]
      refine ZgA 15 _ _ (by kernel_rfl) (by simp (disch:=first | omega | (simp only [List.length_cons,List.length_nil,List.length_append,List.length_map,List.length_take,List.length_drop]<;>omega)) only [e1,he1,he2,hml,hj3,hj4,eq_self,true_and,if_true,ZcF,go_sem,seval];exact ⟨rfl,rfl⟩) (Zol ?_)
      generalize hm1:m.set j (nth m (j-1))=m1 at *
      have he3:elt (m1.map eRte) (j-1)=eRte (nth m1 (j-1)):=Z2 (by omega)
      have hset2:(m1.map eRte).set (j-1) (.agg [.int .i64 (nth m j).typ,.int .i64 (nth m j).start,.list (nth m j).rests_c ((nth m j).rests.map eB),.list (nth m j).visits_c ((nth m j).visits.map Xi)])=(Zjc m j).map eRte:=by rw [Zjc,hm1,List.map_set];rfl
      simp (disch:=first | omega | (simp only [List.length_cons,List.length_nil,List.length_append,List.length_map,List.length_take,List.length_drop]<;>omega)) only [e1,he3,hl1,hj4,eq_self,true_and,if_true,hset2,go_sem,seval];obtain ⟨j,rfl⟩: ∃q,j=q+1:=⟨j-1,by omega⟩
      have hd2:M2=dnF Ut j (Zjc m (j+1)):=by rw [hd,dnF,if_pos (by simpa using h3)]
      have hsl:=Zd8 (l:=m) (j:=j+1);exact ⟨(j,Zjc m (j+1)),⟨by simp only;omega,by rw [hsl];exact hml,fun r h=>hm r ((Zbg hj2).mem_iff.1 h),hd2⟩,by simp only;omega,Weak.mk (by simp (disch:=omega) only [Xw,show (j:Int)+1-1=(j:Int) by omega,go_sem,seval])⟩
     ·rw [ZeS] at h3
      have hd2:M2=m:=by
       rw [hd]
       cases j with
       | zero=>rfl
       | succ j=>rw [dnF,if_neg (by simpa using h3)]
      rw [hd2] at hM2;exact ⟨i+1,by omega,by omega,Weak.mk (by simp (disch:=omega) only [Xw,hM2,go_sem,seval])⟩
    ·have hj0:j=0:=by omega
     subst hj0;rw [show M2=m from hd] at hM2;exact ⟨i+1,by omega,by omega,Weak.mk (by simp (disch:=omega) only [Xw,hM2,go_sem,seval])⟩
  ·have he:QF Ut i l=QF Ut l.length l:=by
    rcases hi1 with h | h
    ·rw [show i=l.length by omega]
    ·subst h;rcases Nat.eq_zero_or_pos l.length with e | e
     ·rw [e];rfl
     ·rw [show l.length=1 by omega]
   rw [he];exact ⟨.tup [],Xw U (QF Ut l.length l),Weak.mk (by simp (disch:=omega) only [Xw,go_sem,seval]),rfl,rfl⟩
theorem Zgu (U:List Int) (l:List Rte) (hl:l.length<=19) (hv: ∀r∈l,r.visits.length<=1048576) :
  ACalls Tryz.prog 68 [.sl 0 0 l.length l.length,.p (.int .i64 l.length),.fn (.func 38) [] []] (Xw U l) fun y H'=>y= .tup []/\H'=Xw U (QF Ut l.length l):=by
 refine Zc [] Tryz.func68 rfl Zyr ?_;simp (disch:=omega) only [Tryz.f68,Xw,go_sem,seval];refine Zg [0,1,2,6,7,8] (fun _:Unit=> []) (fun _=>Xw U l) (fun _=>True) (fun _=>0) () trivial (Weak.mk ?_) ?_
 ·simp (disch:=omega) only [Xw,go_sem,seval]
 ·intro _ _;simp (disch:=omega) only [Xw,go_sem,seval]
  have h1: ¬(20:Int)<=(l.length:Int):=by omega
  simp (disch:=omega) only [h1,go_sem,seval];refine (Zg7 U l (by omega) hv).useH ?_;simp (disch:=omega) only [Xw,go_sem,seval];refine Zg [0,1,2,6] (fun _:Unit=> []) (fun _=>Xw U (QF Ut l.length l)) (fun _=>True) (fun _=>0) () trivial (Weak.mk ?_) ?_
  ·simp (disch:=omega) only [Xw,go_sem,seval]
  ·intro _ _
   have h2: ¬(20:Int)<(l.length:Int):=by omega
   simp (disch:=omega) only [Xw,h2,go_sem,seval];exact ⟨.tup [],Xw U (QF Ut l.length l),Weak.mk (by simp (disch:=omega) only [Xw,go_sem,seval]),rfl,rfl⟩
theorem Zaw (U:List Int) (l:List Rte) (hl:l.length<=19) (hv: ∀r∈l,r.visits.length<=1048576) :
  ACalls Tryz.prog 37 [.sl 0 0 l.length l.length,.fn (.func 38) [] []] (Xw U l) fun y H'=>y= .tup []/\H'=Xw U (QF Ut l.length l):=by
 refine Zc [] Tryz.func37 rfl ZzN ?_;simp (disch:=omega) only [Tryz.f37,Xw,go_sem,seval];refine (Zgu U l hl hv).useH ?_;simp (disch:=omega) only [Xw,go_sem,seval];exact ⟨.tup [],Xw U (QF Ut l.length l),Weak.mk (by simp (disch:=omega) only [Xw,go_sem,seval]),rfl,rfl⟩
theorem V9 {P:Program} {e:TypeId} {k:Nat} {cs:List PV} {kk:IntKind} {n:Int} {x:PV} (h0:0<=n) (h1:n<k) (hx:apart P e cs n.toNat=some x) (ht:tsz P e=some 1):Zg3 P (some (.array k e)) (.p (.agg cs)) (.p (.int kk n))=some (.p x):=by
 simp only [Zg3,if_pos (show 0<=n/\n<(k:Int) from ⟨h0,h1⟩),ht,Nat.mul_one,hx];rfl
def ZAR (s:Sco):PV:= .agg [.int .i64 s.cost,.int .i64 s.moved,.int .i64 s.other,.int .i64 s.work]
@[go_sem] theorem Zy6 (s:Sco):ZAR s= .agg [.int .i64 s.cost,.int .i64 s.moved,.int .i64 s.other,.int .i64 s.work]:=Eq.trans rfl rfl
theorem KT (s:Sco):PC 65 [.p (ZfF s)] (ZAR s):=by
 refine Zc [] Tryz.func65 rfl Zyb ?_;simp (disch:=omega) only [Tryz.f65,go_sem,seval];exact we
theorem ZfZ (s:Sco):PC 104 [.p (ZAR s)] (ZfF s):=by
 refine Zc [] Tryz.func104 rfl Zq1 ?_;simp (disch:=omega) only [Tryz.f104,go_sem,seval];exact we
def Z7 (a b:Sco):Sco:=⟨a.cost+b.cost,a.moved+b.moved,a.other+b.other,a.work+b.work⟩
def Qc (B:Int) (s:Sco):Prop:=(-B<=s.cost/\s.cost<=B)/\(-B<=s.moved/\s.moved<=B)/\(-B<=s.other/\s.other<=B)/\(-B<=s.work/\s.work<=B)
def ZeB (a b:Sco) (k:Nat):AM.Obj:= .cells [.p (.int .i64 (if 0<k then a.cost+b.cost else a.cost)),.p (.int .i64 (if 1<k then a.moved+b.moved else a.moved)),.p (.int .i64 (if 2<k then a.other+b.other else a.other)),.p (.int .i64 (if 3<k then a.work+b.work else a.work))]
def YF (s:Sco):AM.Obj:= .cells [.p (.int .i64 s.cost),.p (.int .i64 s.moved),.p (.int .i64 s.other),.p (.int .i64 s.work)]
theorem ZgY (a b:Sco) (ha:Qc 1152921504606846976 a) (hb:Qc 1152921504606846976 b):PC 63 [.p (ZfF a),.p (ZfF b)] (ZfF (Z7 a b)):=by
 obtain ⟨a1,a2,a3,a4⟩:=ha;obtain ⟨b1,b2,b3,b4⟩:=hb;refine Zc [1] Tryz.func63 rfl ZzY ?_;simp (disch:=omega) only [Tryz.f63,go_sem,seval];refine Zo [4] (fun c:Bool=> [(5,.ptr (if c=true then 3 else 4) 0),(6,.ptr (if c=true then 4 else 3) 0)]) (fun c=> [YF a,YF b,YF zSco,if c=true then YF a else YF b,if c=true then YF b else YF a]) (fun _=>True) ?_ ?_
 ·simp (disch:=omega) only [go_sem,seval];refine Xo [4,5] 6 mixed (by kernel_rfl) (by kernel_rfl) (by kernel_rfl) (by simp) ?_;simp (disch:=omega) only [go_sem,seval];refine Zk (KT a) ?_;simp (disch:=omega) only [go_sem,seval];refine Zk (KT b) ?_;simp (disch:=omega) only [go_sem,seval];refine VP 4 5 _ _ _ _ (by kernel_rfl) (by simp (disch:=omega) only [go_sem,seval];exact ⟨rfl,rfl⟩) (by simp (disch:=omega) only [go_sem,seval];exact ⟨rfl,rfl⟩) ?_ ?_
  ·refine ZG 5 _ _ (by kernel_rfl) (by simp (disch:=omega) only [go_sem,seval];exact ⟨rfl,rfl⟩) (XV ?_);simp (disch:=omega) only [go_sem,seval];exact ⟨true,Weak.mk (by simp (disch:=omega) only [YF,zSco,go_sem,seval])⟩
  ·refine ZG 4 _ _ (by kernel_rfl) (by simp (disch:=omega) only [go_sem,seval];exact ⟨rfl,rfl⟩) (XV ?_);simp (disch:=omega) only [go_sem,seval];exact ⟨false,Weak.mk (by simp (disch:=omega) only [YF,zSco,Bool.false_eq_true,go_sem,seval])⟩
 ·intro c _
  cases c <;>
  (simp only [Bool.false_eq_true,if_true,if_false]
   refine Zb [] _ _ _ _ ?_
   simp (disch:=omega) only [YF,zSco,go_sem,seval])
  ·refine Zg [4,5,6] (fun k:Nat=> [(12,.p (.int .i64 k))]) (fun k=> [YF a,YF b,YF zSco,YF b,ZeB a b k]) (fun k=>k<=4) (fun k=>4-k) 0 (by omega) (Weak.mk ?_) ?_
   ·simp (disch:=omega) only [YF,ZeB,zSco,go_sem,seval]
   ·intro k hk;simp (disch:=omega) only [YF,ZeB,zSco,go_sem,seval];refine cD ?_ ?_<;>intro h1<;>simp (disch:=omega) only [Sh.out h1,go_sem,seval]
    ·have:k=0\/k=1\/k=2\/k=3:=by omega
     rcases this with rfl | rfl | rfl | rfl
     ·refine Zq 7 mixed (by kernel_rfl) (by kernel_rfl) ?_;simp (disch:=omega) only [go_sem,seval];exact ⟨1,by omega,by omega,Weak.mk (by simp (disch:=omega) only [YF,ZeB,zSco,go_sem,seval])⟩
     ·refine Zq 7 mixed (by kernel_rfl) (by kernel_rfl) ?_;simp (disch:=omega) only [go_sem,seval];exact ⟨2,by omega,by omega,Weak.mk (by simp (disch:=omega) only [YF,ZeB,zSco,go_sem,seval])⟩
     ·refine Zq 7 mixed (by kernel_rfl) (by kernel_rfl) ?_;simp (disch:=omega) only [go_sem,seval];exact ⟨3,by omega,by omega,Weak.mk (by simp (disch:=omega) only [YF,ZeB,zSco,go_sem,seval])⟩
     ·refine Zq 7 mixed (by kernel_rfl) (by kernel_rfl) ?_;simp (disch:=omega) only [go_sem,seval];exact ⟨4,by omega,by omega,Weak.mk (by simp (disch:=omega) only [YF,ZeB,zSco,go_sem,seval])⟩
    ·have hk4:k=4:=by omega
     subst hk4;refine (ZfZ (Z7 a b)).use ?_;simp (disch:=omega) only [go_sem,seval];exact we
  ·refine Zg [4,5,6] (fun k:Nat=> [(12,.p (.int .i64 k))]) (fun k=> [YF a,YF b,YF zSco,ZeB a b k,YF b]) (fun k=>k<=4) (fun k=>4-k) 0 (by omega) (Weak.mk ?_) ?_
   ·simp (disch:=omega) only [YF,ZeB,zSco,go_sem,seval]
   ·intro k hk;simp (disch:=omega) only [YF,ZeB,zSco,go_sem,seval];refine cD ?_ ?_<;>intro h1<;>simp (disch:=omega) only [Sh.out h1,go_sem,seval]
    ·have:k=0\/k=1\/k=2\/k=3:=by omega
     rcases this with rfl | rfl | rfl | rfl
     ·refine Zq 7 mixed (by kernel_rfl) (by kernel_rfl) ?_;simp (disch:=omega) only [go_sem,seval];exact ⟨1,by omega,by omega,Weak.mk (by simp (disch:=omega) only [YF,ZeB,zSco,go_sem,seval])⟩
     ·refine Zq 7 mixed (by kernel_rfl) (by kernel_rfl) ?_;simp (disch:=omega) only [go_sem,seval];exact ⟨2,by omega,by omega,Weak.mk (by simp (disch:=omega) only [YF,ZeB,zSco,go_sem,seval])⟩
     ·refine Zq 7 mixed (by kernel_rfl) (by kernel_rfl) ?_;simp (disch:=omega) only [go_sem,seval];exact ⟨3,by omega,by omega,Weak.mk (by simp (disch:=omega) only [YF,ZeB,zSco,go_sem,seval])⟩
     ·refine Zq 7 mixed (by kernel_rfl) (by kernel_rfl) ?_;simp (disch:=omega) only [go_sem,seval];exact ⟨4,by omega,by omega,Weak.mk (by simp (disch:=omega) only [YF,ZeB,zSco,go_sem,seval])⟩
    ·have hk4:k=4:=by omega
     subst hk4;refine (ZfZ (Z7 a b)).use ?_;simp (disch:=omega) only [go_sem,seval];exact we
def Xs (s:Sco):Int×Int:=if s.cost<0\/s.moved<0\/s.other<0\/s.work<0 then (0,2) else if 1073741824<s.cost\/16<=s.moved\/16<=s.other\/65536<=s.work then (0,4) else (((s.cost*16+s.moved)*16+s.other)*65536+s.work,0)
theorem JI (s:Sco) (hs:Qc 1152921504606846976 s):PT 31 [.p (ZfF s)] [.p (.int .i64 (Xs s).1),.p (.int .i64 (Xs s).2)]:=by
 obtain ⟨a1,a2,a3,a4⟩:=hs;refine Zc [] Tryz.func31 rfl Zzr ?_;simp (disch:=omega) only [Tryz.f31,go_sem,seval];refine (KT s).use ?_;simp (disch:=omega) only [go_sem,seval];refine Zg [1,9] (fun k:Nat=> [(10,.p (.int .i64 k))]) (fun _=> [YF s,YF s]) (fun k=>k<=4/\(0<k->0<=s.cost)/\(1<k->0<=s.moved)/\(2<k->0<=s.other)/\(3<k->0<=s.work)) (fun k=>4-k) 0 ⟨by omega,by omega,by omega,by omega,by omega⟩ (Weak.mk ?_) ?_
 ·simp (disch:=omega) only [YF,go_sem,seval]
 ·rintro k ⟨hk,k1,k2,k3,k4⟩;simp (disch:=omega) only [YF,go_sem,seval];refine cD ?_ ?_<;>intro h1<;>simp (disch:=omega) only [Sh.out h1,go_sem,seval]
  ·have:k=0\/k=1\/k=2\/k=3:=by omega
   rcases this with rfl | rfl | rfl | rfl
   ·rw [V9 (x:= .int .i64 s.cost) (by omega) (by omega) (by rfl) (by kernel_rfl)];simp (disch:=omega) only [go_sem,seval];refine cD ?_ ?_<;>intro h2<;>simp (disch:=omega) only [Sh.out h2,go_sem,seval]
    ·have e:Xs s=(0,2):=by rw [Xs,if_pos (by omega)]
     rw [e];exact we
    ·exact ⟨1,⟨by omega,fun _=>by omega,by omega,by omega,by omega⟩,by omega,Weak.mk (by simp (disch:=omega) only [YF,go_sem,seval])⟩
   ·rw [V9 (x:= .int .i64 s.moved) (by omega) (by omega) (by rfl) (by kernel_rfl)];simp (disch:=omega) only [go_sem,seval];refine cD ?_ ?_<;>intro h2<;>simp (disch:=omega) only [Sh.out h2,go_sem,seval]
    ·have e:Xs s=(0,2):=by rw [Xs,if_pos (by omega)]
     rw [e];exact we
    ·exact ⟨2,⟨by omega,fun _=>k1 (by omega),fun _=>by omega,by omega,by omega⟩,by omega,Weak.mk (by simp (disch:=omega) only [YF,go_sem,seval])⟩
   ·rw [V9 (x:= .int .i64 s.other) (by omega) (by omega) (by rfl) (by kernel_rfl)];simp (disch:=omega) only [go_sem,seval];refine cD ?_ ?_<;>intro h2<;>simp (disch:=omega) only [Sh.out h2,go_sem,seval]
    ·have e:Xs s=(0,2):=by rw [Xs,if_pos (by omega)]
     rw [e];exact we
    ·exact ⟨3,⟨by omega,fun _=>k1 (by omega),fun _=>k2 (by omega),fun _=>by omega,by omega⟩,by omega,Weak.mk (by simp (disch:=omega) only [YF,go_sem,seval])⟩
   ·rw [V9 (x:= .int .i64 s.work) (by omega) (by omega) (by rfl) (by kernel_rfl)];simp (disch:=omega) only [go_sem,seval];refine cD ?_ ?_<;>intro h2<;>simp (disch:=omega) only [Sh.out h2,go_sem,seval]
    ·have e:Xs s=(0,2):=by rw [Xs,if_pos (by omega)]
     rw [e];exact we
    ·exact ⟨4,⟨by omega,fun _=>k1 (by omega),fun _=>k2 (by omega),fun _=>k3 (by omega),fun _=>by omega⟩,by omega,Weak.mk (by simp (disch:=omega) only [YF,go_sem,seval])⟩
  ·have hk4:k=4:=by omega
   subst hk4;have g1:=k1 (by omega);have g2:=k2 (by omega);have g3:=k3 (by omega);have g4:=k4 (by omega)
   have n1: ¬(s.cost<0\/s.moved<0\/s.other<0\/s.work<0):=by omega
   have bad:(1073741824<s.cost\/16<=s.moved\/16<=s.other\/65536<=s.work)->Xs s=(0,4):=fun h=>by rw [Xs,if_neg n1,if_pos h]
   refine gF ?_ ?_<;>intro h2<;>simp (disch:=omega) only [Sh.out h2,go_sem,seval]
   ·rw [bad (by omega)];exact we
   ·refine gF ?_ ?_<;>intro h3<;>simp (disch:=omega) only [Sh.out h3,go_sem,seval]
    ·rw [bad (by omega)];exact we
    ·refine gF ?_ ?_<;>intro h4<;>simp (disch:=omega) only [Sh.out h4,go_sem,seval]
     ·rw [bad (by omega)];exact we
     ·refine cD ?_ ?_<;>intro h5<;>simp (disch:=omega) only [Sh.out h5,go_sem,seval]
      ·rw [bad (by omega)];exact we
      ·have e:Xs s=(((s.cost*16+s.moved)*16+s.other)*65536+s.work,0):=by rw [Xs,if_neg n1,if_neg (by omega)]
       rw [e];exact we
def Yg (x:Inst) (i:Int):Sco×Int :=
 if i<0\/(x.orders.length:Int)<=i then (zSco,2)
 else if (nth x.orders i.toNat).off=true then (zSco,9)
 else if (nth x.orders i.toNat).penalty= -1 then (zSco,23)
 else (⟨(nth x.orders i.toNat).penalty,if (nth x.orders i.toNat).now= -1 then 0 else 1,0,0⟩,0)
theorem QK (x:Inst) (i:Int) (ho:x.orders.length<=1048576):PT 64 [.p (ZT x),.p (.int .i64 i)] [.p (ZfF (Yg x i).1),.p (.int .i64 (Yg x i).2)]:=by
 refine Zc [] Tryz.func64 rfl ZzS ?_;simp (disch:=omega) only [Tryz.f64,go_sem,seval];refine gF ?_ ?_<;>intro h1<;>simp (disch:=omega) only [Sh.out h1,go_sem,seval]
 ·have e:Yg x i=(zSco,2):=by rw [Yg,if_pos (by omega)]
  rw [e];exact we (by simp (disch:=omega) only [zSco,go_sem,seval])
 ·refine cD ?_ ?_<;>intro h2<;>simp (disch:=omega) only [Sh.out h2,go_sem,seval]
  ·have e:Yg x i=(zSco,2):=by rw [Yg,if_pos (by omega)]
   rw [e];exact we (by simp (disch:=omega) only [zSco,go_sem,seval])
  ·have hi:i.toNat<x.orders.length:=by omega
   have n1: ¬(i<0\/(x.orders.length:Int)<=i):=by omega
   refine cD ?_ ?_<;>intro h3<;>simp (disch:=omega) only [Sh.out h3,go_sem,seval]
   ·have e:Yg x i=(zSco,9):=by rw [Yg,if_neg n1,if_pos h3]
    rw [e];exact we (by simp (disch:=omega) only [zSco,go_sem,seval])
   ·have h3': ¬(nth x.orders i.toNat).off=true:=by rw [h3];simp
    refine cD ?_ ?_<;>intro h4<;>simp (disch:=omega) only [Sh.out h4,go_sem,seval]
    ·have e:Yg x i=(zSco,23):=by rw [Yg,if_neg n1,if_neg h3',if_pos h4]
     rw [e];exact we (by simp (disch:=omega) only [zSco,go_sem,seval])
    ·refine cD ?_ ?_<;>intro h5<;>simp (disch:=omega) only [Sh.out h5,go_sem,seval]
     ·have e:Yg x i=(⟨(nth x.orders i.toNat).penalty,1,0,0⟩,0):=by rw [Yg,if_neg n1,if_neg h3',if_neg h4,if_neg h5]
      rw [e];exact we
     ·have h5':(nth x.orders i.toNat).now= -1:=by omega
      have e:Yg x i=(⟨(nth x.orders i.toNat).penalty,0,0,0⟩,0):=by rw [Yg,if_neg n1,if_neg h3',if_neg h4,if_pos h5']
      rw [e];exact we
theorem QE {x:Inst} (hx:InstOk x) (i:Int):Qc 1073741824 (Yg x i).1:=by
 unfold Yg
 split
 ·simp [Qc,zSco]
 ·split
  ·simp [Qc,zSco]
  ·split
   ·simp [Qc,zSco]
   ·have ha:=(hx.orders.2 i.toNat (by omega)).arg;simp only [argOk,rng,Bool.and_eq_true,decide_eq_true_eq] at ha;simp only [Qc]
    split<;>omega
theorem KF {a b:Sco} {B C:Int} (ha:Qc B a) (hb:Qc C b):Qc (B+C) (Z7 a b):=by
 simp only [Qc,Z7] at *
 omega
theorem Xx {a:Sco} {B C:Int} (h:B<=C) (ha:Qc B a):Qc C a:=by
 simp only [Qc] at *
 omega
def VC (s:Sco):Prop:=0<=s.cost/\0<=s.moved/\0<=s.other/\0<=s.work
theorem V4 {a b:Sco} (ha:VC a) (hb:VC b):VC (Z7 a b):=by
 obtain ⟨a1,a2,a3,a4⟩:=ha;obtain ⟨b1,b2,b3,b4⟩:=hb;exact ⟨by show 0<=a.cost+b.cost;omega,by show 0<=a.moved+b.moved;omega,by show 0<=a.other+b.other;omega,by show 0<=a.work+b.work;omega⟩
theorem WT {s:Sco} (hs:VC s):(Xs s).2=0↔s.cost<=1073741824/\s.moved<16/\s.other<16/\s.work<65536:=by
 obtain ⟨a1,a2,a3,a4⟩:=hs;unfold Xs;rw [if_neg (by omega)]
 split
 ·exact ⟨fun h=>absurd h (by simp),fun h=>by omega⟩
 ·exact ⟨fun _=>by omega,fun _=>rfl⟩
theorem Qm {s:Sco} (hs:VC s) (h:(Xs s).2=0):(Xs s).1=((s.cost*16+s.moved)*16+s.other)*65536+s.work:=by
 have h:=(WT hs).1 h;obtain ⟨a1,a2,a3,a4⟩:=hs;unfold Xs;rw [if_neg (by omega),if_neg (by omega)]
theorem Zml {a b:Sco} (ha:VC a) (hb:VC b) (h:(Xs (Z7 a b)).2=0):(Xs a).2=0/\(Xs b).2=0/\(Xs (Z7 a b)).1=(Xs a).1+(Xs b).1:=by
 have h1:=(WT (V4 ha hb)).1 h;have hv:=Qm (V4 ha hb) h;have hA:(Xs a).2=0:=(WT ha).2 (by simp only [Z7] at h1;obtain ⟨b1,b2,b3,b4⟩:=hb;omega);have hB:(Xs b).2=0:=(WT hb).2 (by simp only [Z7] at h1;obtain ⟨a1,a2,a3,a4⟩:=ha;omega);refine ⟨hA,hB,?_⟩;rw [hv,Qm ha hA,Qm hb hB];simp only [Z7];omega
theorem ZaM {α:Type} {f:α->Sco} : ∀(l:List α) (s:Sco),(∀a∈l,VC (f a))->VC s->(Xs (l.foldl (fun s a=>Z7 s (f a)) s)).2=0 ->
  (Xs s).2=0/\(∀a∈l,(Xs (f a)).2=0)/\(Xs (l.foldl (fun s a=>Z7 s (f a)) s)).1=(Xs s).1+(l.map fun a=>(Xs (f a)).1).sum
 | [],s,_,_,h=>⟨h,by simp,by simp⟩
 | a::l,s,hf,hs,h=>by
  rw [List.foldl_cons] at h ⊢;have ha:=hf a (by simp);obtain ⟨g1,g2,g3⟩:=ZaM l (Z7 s (f a)) (fun b hb=>hf b (List.mem_cons_of_mem _ hb)) (V4 hs ha) h;obtain ⟨k1,k2,k3⟩:=Zml hs ha g1;refine ⟨k1,fun b hb=> ?_,?_⟩
  ·rcases List.mem_cons.1 hb with rfl | hb
   ·exact k2
   ·exact g2 b hb
  ·rw [g3,k3,List.map_cons,List.sum_cons];omega
def Zme (x:Inst) (t:Typ) (r:Rte) (c:Bool) (sp:List Stp):PV:= .agg [.list x.net.places_c (x.net.places.map eS),.list x.net.arcs_c (x.net.arcs.map JU),.list x.types_c (x.types.map JY),.list x.orders_c (x.orders.map Vt),.list x.apart_c (x.apart.map eP),.list x.before_c (x.before.map eP),.str t.name,.int .i64 t.count,.int .i64 t.src,.int .i64 t.dst,.list t.cap_c (t.cap.map eI),.int .i64 t.skills,.int .i64 t.prof,.int .i64 t.opn,.int .i64 t.cls,.int .i64 t.drive,.int .i64 t.rest,.int .i64 t.fixed,.int .i64 t.perMile,.int .i64 t.perTick,.int .i64 r.typ,.int .i64 r.start,.list r.rests_c (r.rests.map eB),.list r.visits_c (r.visits.map Xi),.list c (sp.map ZiL)]
@[go_sem] theorem ZyW (x:Inst) (t:Typ) (r:Rte) (c:Bool) (sp:List Stp):Zme x t r c sp= .agg [.list x.net.places_c (x.net.places.map eS),.list x.net.arcs_c (x.net.arcs.map JU),.list x.types_c (x.types.map JY),.list x.orders_c (x.orders.map Vt),.list x.apart_c (x.apart.map eP),.list x.before_c (x.before.map eP),.str t.name,.int .i64 t.count,.int .i64 t.src,.int .i64 t.dst,.list t.cap_c (t.cap.map eI),.int .i64 t.skills,.int .i64 t.prof,.int .i64 t.opn,.int .i64 t.cls,.int .i64 t.drive,.int .i64 t.rest,.int .i64 t.fixed,.int .i64 t.perMile,.int .i64 t.perTick,.int .i64 r.typ,.int .i64 r.start,.list r.rests_c (r.rests.map eB),.list r.visits_c (r.visits.map Xi),.list c (sp.map ZiL)]:=Eq.trans rfl rfl
def ZvY (x:Inst) (t:Typ) (r:Rte):List V:= [.p (.list x.net.places_c (x.net.places.map eS)),.p (.list x.net.arcs_c (x.net.arcs.map JU)),.p (.list x.types_c (x.types.map JY)),.p (.list x.orders_c (x.orders.map Vt)),.p (.list x.apart_c (x.apart.map eP)),.p (.list x.before_c (x.before.map eP)),.p (.str t.name),.p (.int .i64 t.count),.p (.int .i64 t.src),.p (.int .i64 t.dst),.p (.list t.cap_c (t.cap.map eI)),.p (.int .i64 t.skills),.p (.int .i64 t.prof),.p (.int .i64 t.opn),.p (.int .i64 t.cls),.p (.int .i64 t.drive),.p (.int .i64 t.rest),.p (.int .i64 t.fixed),.p (.int .i64 t.perMile),.p (.int .i64 t.perTick),.p (.int .i64 r.typ),.p (.int .i64 r.start),.p (.list r.rests_c (r.rests.map eB)),.p (.list r.visits_c (r.visits.map Xi))]
def X9 (x:Inst) (t:Typ) (r:Rte) (c:Bool) (sp:List Stp):AM.Obj:= .cells [.p (.list x.net.places_c (x.net.places.map eS)),.p (.list x.net.arcs_c (x.net.arcs.map JU)),.p (.list x.types_c (x.types.map JY)),.p (.list x.orders_c (x.orders.map Vt)),.p (.list x.apart_c (x.apart.map eP)),.p (.list x.before_c (x.before.map eP)),.p (.str t.name),.p (.int .i64 t.count),.p (.int .i64 t.src),.p (.int .i64 t.dst),.p (.list t.cap_c (t.cap.map eI)),.p (.int .i64 t.skills),.p (.int .i64 t.prof),.p (.int .i64 t.opn),.p (.int .i64 t.cls),.p (.int .i64 t.drive),.p (.int .i64 t.rest),.p (.int .i64 t.fixed),.p (.int .i64 t.perMile),.p (.int .i64 t.perTick),.p (.int .i64 r.typ),.p (.int .i64 r.start),.p (.list r.rests_c (r.rests.map eB)),.p (.list r.visits_c (r.visits.map Xi)),.p (.list c (sp.map ZiL))]
def ZwH : AM.Obj:= .cells [.p (.list true []),.p (.list true []),.p (.list true []),.p (.list true []),.p (.list true []),.p (.list true []),.p (.str []),.p (.int .i64 0),.p (.int .i64 0),.p (.int .i64 0),.p (.list true []),.p (.int .i64 0),.p (.int .i64 0),.p (.int .i64 0),.p (.int .i64 0),.p (.int .i64 0),.p (.int .i64 0),.p (.int .i64 0),.p (.int .i64 0),.p (.int .i64 0),.p (.int .i64 0),.p (.int .i64 0),.p (.list true []),.p (.list true []),.p (.list true [])]
def Zao (L:Lab):PV:= .agg [.int .i64 L.ready,.int .i64 L.since,.bool L.she.rest,.int .i64 L.she.dep,.list L.she.times_c (L.she.times.map eTim),.int .i64 L.she.fin,.int .i64 L.she.miles]
@[go_sem] theorem ZAL (L:Lab):Zao L= .agg [.int .i64 L.ready,.int .i64 L.since,.bool L.she.rest,.int .i64 L.she.dep,.list L.she.times_c (L.she.times.map eTim),.int .i64 L.she.fin,.int .i64 L.she.miles]:=Eq.trans rfl rfl
@[go_sem] theorem Zvo (l:List Lab):ZcB 7 (l.map Zao)=true:=Qp (f:=Zao) (S:=7) (fun _=>rfl) l
def YV (L:Lab):AM.Obj:= .cells [.p (.int .i64 L.ready),.p (.int .i64 L.since),.p (.bool L.she.rest),.p (.int .i64 L.she.dep),.p (.list L.she.times_c (L.she.times.map eTim)),.p (.int .i64 L.she.fin),.p (.int .i64 L.she.miles)]
theorem Zk4 (l:List Tim) (c:Bool) (hl:l.length<=1048576):ACalls Tryz.prog 237 [.p (.list c (l.map eTim))] [] fun x H'=>x= .sl 0 0 l.length l.length/\H'= [.elems 4 (l.map eTim)]:=by
 suffices hh:ACalls Tryz.prog 237 [.p (.list c (l.map eTim))] [] fun x H'=> ∃m:List Tim,m=l/\x= .sl 0 0 m.length m.length/\H'= [.elems 4 (m.map eTim)] by
  refine hh.mono fun x H' h=> ?_;obtain ⟨m,rfl,h1,h2⟩:=h;exact ⟨h1,h2⟩
 refine Zc [1] Tryz.func237 rfl Zuu ?_;simp (disch:=omega) only [Tryz.f237,go_sem,seval];refine XC (XC (Zom 1 rfl rfl ?_));refine ⟨_,ZmP (e:=298) rfl Tryz.underlying113 rfl (fun _=>rfl),?_⟩;rintro _ ⟨b,rfl,hb⟩;simp (disch:=omega) only [go_sem,seval];refine Zb [] _ _ _ _ ?_
 cases b with
 | true =>
  have hn:l= []:=by simpa using hb rfl
  subst hn;simp (disch:=omega) only [go_sem,seval];exact ⟨_,_,Weak.ofNil 0 4 rfl (by simp) (wk),[],rfl,rfl,rfl⟩
 | false =>
  simp (disch:=omega) only [go_sem,seval];refine Zb [] _ _ _ _ ?_;simp (disch:=omega) only [go_sem,seval];exact ⟨.sl 0 0 l.length l.length,[.elems 4 (l.map eTim)],wk,l,rfl,rfl,rfl⟩
theorem Zcc (x:Inst) (t:Typ) (r:Rte) (c:Bool) (sp:List Stp):PC 175 [.p (Zme x t r c sp)] (Zao (labF t r.start)):=by
 refine Zc [] Tryz.func175 rfl Zuj ?_;simp (disch:=omega) only [Tryz.f175,go_sem,seval];exact we (by simp (disch:=omega) only [labF,zShe,List.map_nil,go_sem,seval])
theorem Zkp (x:Inst) (t:Typ) (r:Rte) (c:Bool) (sp:List Stp) (k:Nat) (hk:k<=sp.length) (hl:sp.length<=1048576):PC 238 [.p (Zme x t r c sp),.p (.int .i64 (k:Nat))] (.int .i64 (ZfR t sp k)):=by
 refine Za Tryz.func238 rfl Zp1 ?_;simp (disch:=omega) only [Tryz.f238,go_sem,seval];refine cD ?_ ?_<;>intro h<;>simp (disch:=omega) only [Sh.out h,go_sem,seval]
 ·have:k=0:=by omega
  rw [ZfR,if_pos this]
 ·have e1:((k:Int)-1).toNat=k-1:=by omega
  have h2: ¬k=0:=by omega
  rw [ZfR,if_neg h2]
  done
theorem ZpZ (x:Inst) (r:Rte) (hx:InstOk x) (hty:0<=r.typ/\r.typ<(x.types.length:Int)) (h0:Xm x r.visits=0) (hs:0<=r.start/\r.start<=4096) :
  PT 174 [.p (ZT x),.p (eRte r)] [.p (Zme x (XX x r) r false (ZU x r.visits)),.p (.bool true)]:=by
 have hd:=Je hx;have hsq:=Wg h0;have hol:=hd.ord;have htl:=hd.typ;have hvl:=hsq.len hol
 have e1: ¬r.typ<0:=by omega
 have e2: ¬(x.types.length:Int)<=r.typ:=by omega
 have e3: ¬r.start<0:=by omega
 have e4: ¬ 4096<r.start:=by omega
 have e5: ¬ 20<(r.visits.length:Int):=by omega
 refine Zc [12] Tryz.func174 rfl ZlA ?_;simp (disch:=omega) only [Tryz.f174,e1,e2,e3,e4,e5,go_sem,seval];refine Xo [9] 10 mixed (by kernel_rfl) (by kernel_rfl) (by kernel_rfl) (by simp) ?_;simp (disch:=omega) only [go_sem,seval];refine ZG 9 _ _ (by kernel_rfl) (by simp (disch:=omega) only [go_sem,seval];exact ⟨rfl,rfl⟩) (XV ?_);simp (disch:=omega) only [go_sem,seval]
 refine ZZ [12] [2,4,6,49,50] (fun q:Nat×List Stp=> [(51,.p (.int .i64 q.1))])
  (fun q=> [Ze x,Xd r,ZwH,.cells (ZvY x (XX x r) r++ [.sl 4 0 q.2.length q.2.length]),.elems 4 (q.2.map ZiL)])
  (fun q=>q.1<=r.visits.length/\q.2=(ZU x r.visits).take q.1) (fun q=>r.visits.length-q.1) (0,[]) (by simp) ((Weak.nilC (o:=3) (j:=24) 4 rfl rfl (by simp)).trans (Weak.mk ?_)) ?_
 ·simp (disch:=omega) only [Ze,Xd,ZwH,ZvY,XX,List.map_nil,List.length_nil,List.set_cons_succ,List.set_cons_zero,List.cons_append,List.nil_append,go_sem,seval]
 ·rintro ⟨k,o⟩ ⟨hk,ho⟩;simp only at hk ho
  have hol2:o.length=k:=by rw [ho];simp [XH];omega
  simp (disch:=omega) only [Ze,Xd,ZwH,ZvY,go_sem,seval];refine cD ?_ ?_<;>intro h1<;>simp (disch:=omega) only [Sh.out h1,go_sem,seval]
  ·have hk2:k<r.visits.length:=by omega
   have hvis:=hsq.vis (ZC hk2);simp only [ZwP,Bool.and_eq_true,decide_eq_true_eq] at hvis
   have hsn:o++ [Xp x (nth r.visits k)]=(ZU x r.visits).take (k+1):=by
    rw [ho,List.take_succ_eq_append_getElem (by rw [XH];exact hk2),<- Zd,ZeW hk2]
   have hnp: ¬(Xp x (nth r.visits k)).place<0:=by omega
   refine Y7 (Zg9 x (nth r.visits k) (by omega) hvis.1 hvis.2) ?_;simp (disch:=omega) only [hnp,go_sem,seval];exact ⟨(k+1,o++ [Xp x (nth r.visits k)]),⟨by simp only;omega,hsn⟩,by simp only;omega,Weak.mk (by simp (disch:=omega) only [Ze,Xd,ZwH,ZvY,List.length_append,List.length_cons,List.length_nil,List.map_append,List.map_cons,List.map_nil,List.cons_append,List.nil_append,go_sem,seval])⟩
  ·have hkl:k=r.visits.length:=by omega
   subst hkl
   have hso:o=ZU x r.visits:=by rw [ho,<- XH (x:=x) (l:=r.visits),List.take_length]
   subst hso;refine Zm (Weak.fz (o:=4) (by rfl)) ?_;refine Zb [] _ _ _ _ ?_;simp (disch:=omega) only [List.map_cons,List.map_nil,List.set_cons_succ,List.set_cons_zero,go_sem,seval];exact we
def Zli (rd sn:Int) (m:She):AM.Obj:= .cells [.p (.int .i64 rd),.p (.int .i64 sn),.p (.bool m.rest),.p (.int .i64 m.dep),.sl 4 0 m.times.length m.times.length,.p (.int .i64 m.fin),.p (.int .i64 m.miles)]
theorem KK {P:Program} {H:List AM.Obj} {f ars} {a b d:PV} {B:V->Prop} {t} (h:ACalls P f ars [] fun x H'=>x= .tup [.p a,.p b,.p d]/\H'= []) (k:B (.tup [.p a,.p b,.p d])) (ha:ZR 0 ars=true:=by rfl) :
  exq (fun y=>ACalls P f ars H (Zv (Zv (fun x H'=>x=y/\H'=H) ⟨⟩) ⟨⟩)) (Zv B t) :=
 ⟨.tup [.p a,.p b,.p d],(h.behind ha H).mono fun x H' hq=>by
  obtain ⟨y,H1,⟨rfl,rfl⟩,rfl,rfl⟩:=hq
  simp [shV,shVs,Zv],k⟩
theorem Zqt (x:Inst) (t:Typ) (r:Rte) (c:Bool) (sp:List Stp) (hok:TrpOk x t sp) (k:Nat) (hk:k<=sp.length) (hs1:0<sp.length) (L:Lab) (hL:LabR k L) (hlen:L.she.times.length=k) (hclip:0<k->L.she.times_c=false) (b:Bool) :
  PT 212 [.p (Zme x t r c sp),.p (Zao L),.p (.int .i64 (k:Nat)),.p (.bool b)] [.p (Zao (nxtF x t sp k L b).1),.p (.int .i64 (nxtF x t sp k L b).2)]:=by
 have hd:=ZaP hok hL b;have hsn:=ZdX hL b;have hg:=Zim hok hL b;have hmi:=hL.mil;have hrd:=hL.rdy;have hsnL:=hL.snc;have hsl:=hok.len;have hrst:=hok.rst;unfold nxtF;have hmm:= @JG k (XK t L b) b L.she;have hmf:= @Zhr k (XK t L b) b L.she;have hml:= @QL k (XK t L b) b L.she;refine Zc [2,7,14,31] Tryz.func212 rfl ZqR ?_;simp (disch:=omega) only [Tryz.f212,go_sem,seval];refine Zh mixed (by kernel_rfl) (by kernel_rfl) ?_;simp (disch:=omega) only [go_sem,seval];refine Zo [2,3,4,5,8] (fun _:Unit=> [(10,.p (.int .i64 (XK t L b))),(11,.p (.int .i64 (QT L b)))]) (fun _=> [X9 x t r c sp,YV L,YV Vs]) (fun _=>True) ?_ ?_
 ·simp (disch:=omega) only [go_sem,seval];refine cD ?_ ?_<;>intro h<;>simp (disch:=omega) only [Sh.out h,go_sem,seval]
  ·subst h;exact ⟨(),Weak.mk (by simp (disch:=omega) only [X9,YV,Vs,zShe,XK,QT,List.map_nil,go_sem,seval])⟩
  ·subst h;exact ⟨(),Weak.mk (by simp (disch:=omega) only [X9,YV,Vs,zShe,XK,QT,List.map_nil,go_sem,seval])⟩
 ·intro _ _;refine Zb [7,14,31] _ _ _ _ ?_;simp (disch:=omega) only [X9,YV,Vs,zShe,List.map_nil,go_sem,seval];refine (Zk4 L.she.times L.she.times_c (by omega)).useF ?_;simp (disch:=omega) only [go_sem,seval]
  generalize hM:Yu k (XK t L b) b L.she=M at *
  refine Zo [2,4,8,10,11,12] (fun _:Unit=> []) (fun _=> [X9 x t r c sp,YV L,YV Vs,Zli 0 0 M,.elems 4 (M.times.map eTim)]) (fun _=>True) ?_ ?_
  ·simp (disch:=omega) only [go_sem,seval];refine cD ?_ ?_<;>intro h<;>simp (disch:=omega) only [Sh.out h,go_sem,seval]
   ·have hk0:k=0:=by omega
    subst hk0
    have e:M= { L.she with rest:=b,dep:=XK t L b } :=by rw [<- hM,Yu,if_pos rfl]
    rw [e];exact ⟨(),Weak.mk (by simp (disch:=omega) only [X9,YV,Vs,zShe,Zli,List.map_nil,go_sem,seval])⟩
   ·have e1:((k:Int)-1).toNat=k-1:=by omega
    have hk1:k-1<L.she.times.length:=by omega
    have ZcF:(L.she.times.map eTim).set (k-1) (PV.agg [.int .i64 (nth L.she.times (k-1)).arr,.int .i64 (nth L.she.times (k-1)).beg,.int .i64 (nth L.she.times (k-1)).dep,.bool b])=(L.she.times.set (k-1) { nth L.she.times (k-1) with rest:=b }).map eTim:=by
     rw [List.map_set];rfl
    have hn1:nth (L.she.times.set (k-1) { nth L.she.times (k-1) with rest:=b }) (k-1)= { nth L.she.times (k-1) with rest:=b } :=by
     rw [Zd (by simpa using hk1)];simp
    have hl1:(L.she.times.set (k-1) { nth L.she.times (k-1) with rest:=b }).length=L.she.times.length:=by simp
    have hMt:M.times=(L.she.times.set (k-1) { nth L.she.times (k-1) with rest:=b }).set (k-1) { nth (L.she.times.set (k-1) { nth L.she.times (k-1) with rest:=b }) (k-1) with dep:=XK t L b } :=by
     rw [hn1,List.set_set,<- hM,Yu,if_neg (by omega)];rfl
    have hM2:M.rest=L.she.rest/\M.dep=L.she.dep:=by rw [<- hM,Yu,if_neg (by omega)];exact ⟨rfl,rfl⟩
    simp (disch:=first | omega | (simp only [List.length_cons,List.length_nil,List.length_append,List.length_map,List.length_take,List.length_drop]<;>omega)) only [e1,go_sem,seval];rw [ZcF]
    generalize L.she.times.set (k-1) { nth L.she.times (k-1) with rest:=b } =l1 at *
    simp (disch:=first | omega | (simp only [List.length_cons,List.length_nil,List.length_append,List.length_map,List.length_take,List.length_drop]<;>omega)) only [e1,hl1,eq_self,decide_true,go_sem,seval];refine ⟨(),Weak.mk ?_⟩;simp (disch:=omega) only [X9,YV,Vs,zShe,Zli,List.map_nil,hM2.1,hM2.2,hmm,hmf,hml,go_sem,seval];rw [hMt,List.map_set]
    rfl
  ·intro _ _;refine Zb [14,31] _ _ _ _ ?_;simp (disch:=omega) only [X9,YV,Vs,zShe,Zli,List.map_nil,go_sem,seval];refine Zo [2,4,8,10,11,12,13] (fun _:Unit=> [(14,.p (.int .i64 (toF t sp k)))]) (fun _=> [X9 x t r c sp,YV L,YV Vs,Zli 0 0 M,.elems 4 (M.times.map eTim)]) (fun _=>True) ?_ ?_
   ·simp (disch:=omega) only [go_sem,seval];refine cD ?_ ?_<;>intro h<;>simp (disch:=omega) only [Sh.out h,go_sem,seval]
    ·have e:toF t sp k=(nth sp k).place:=by rw [toF,if_neg (by omega)]
     exact ⟨(),Weak.mk (by simp (disch:=omega) only [X9,YV,Vs,zShe,Zli,List.map_nil,e,go_sem,seval])⟩
    ·have e:toF t sp k=t.dst:=by rw [toF,if_pos (by omega)]
     exact ⟨(),Weak.mk (by simp (disch:=omega) only [X9,YV,Vs,zShe,Zli,List.map_nil,e,go_sem,seval])⟩
   ·intro _ _;refine Zb [31] _ _ _ _ ?_;simp (disch:=omega) only [X9,YV,Vs,zShe,Zli,List.map_nil,go_sem,seval];refine Zh mixed (by kernel_rfl) (by kernel_rfl) ?_;simp (disch:=omega) only [go_sem,seval];refine Zk (Zkp x t r c sp k hk (by omega)) ?_;simp (disch:=omega) only [go_sem,seval];refine KK (Zvd x.net t.prof (ZfR t sp k) (toF t sp k) (XK t L b) hok.net (by omega)) ?_;simp (disch:=omega) only [go_sem,seval];have hG:goN x.net t.prof (ZfR t sp k) (toF t sp k) (XK t L b)=goL x t sp k (XK t L b):=rfl;rw [hG];clear hG
    generalize goL x t sp k (XK t L b)=g at *
    generalize XK t L b=d at *
    generalize QT L b=s at *
    refine cD ?_ ?_<;>intro h1<;>simp (disch:=omega) only [Sh.out h1,go_sem,seval]
    ·have e:Qg t sp k g d s M=(Vs,12):=by rw [Qg,if_pos h1]
     rw [e];exact we (by simp (disch:=omega) only [Vs,zShe,List.map_nil,go_sem,seval])
    ·refine cD ?_ ?_<;>intro h2<;>simp (disch:=omega) only [Sh.out h2,go_sem,seval]
     ·refine cD ?_ ?_<;>intro h3<;>simp (disch:=omega) only [Sh.out h3,go_sem,seval]
      ·have e:Qg t sp k g d s M=(Vs,15):=by rw [Qg,if_neg h1,if_pos (by omega),if_pos h3]
       rw [e];exact we (by simp (disch:=omega) only [Vs,zShe,List.map_nil,go_sem,seval])
      ·refine Zm (Weak.fz (o:=4) (by rfl)) ?_;refine Zb [] _ _ _ _ ?_;simp (disch:=omega) only [List.map_cons,List.map_nil,List.set_cons_succ,List.set_cons_zero,go_sem,seval];refine cD ?_ ?_<;>intro h4<;>simp (disch:=omega) only [Sh.out h4,go_sem,seval]
       ·have e:Qg t sp k g d s M=(Vs,16):=by rw [Qg,if_neg h1,if_pos (by omega),if_neg h3,if_pos h4]
        rw [e];exact we (by simp (disch:=omega) only [Vs,zShe,List.map_nil,go_sem,seval])
       ·have e:Qg t sp k g d s M=(⟨g.1,s+g.1-d,{ M with fin:=g.1,miles:=M.miles+g.2.1 }⟩,0):=by rw [Qg,if_neg h1,if_pos (by omega),if_neg h3,if_neg h4]
        have hMc:M.times_c=false:=by
         rw [<- hM,Yu,if_neg (by omega)];exact hclip (by omega)
        rw [e];exact we (by simp (disch:=omega) only [hMc,go_sem,seval])
     ·have h2': ¬k=sp.length:=by omega
      have hkl:k<sp.length:=by omega
      have hstp:=hok.stp _ (Zn hkl);refine Y7 (ZhB (nth sp k) g.1) ?_;unfold ZhF
      by_cases h3:(nth sp k).cls<max g.1 (nth sp k).opn
      ·have e:Qg t sp k g d s M=(Vs,14):=by rw [Qg,if_neg h1,if_neg h2',if_pos h3]
       rw [e,if_pos h3];simp (disch:=omega) only [go_sem,seval];exact we (by simp (disch:=omega) only [Vs,zShe,List.map_nil,go_sem,seval])
      ·rw [if_neg h3];simp (disch:=omega) only [go_sem,seval];refine Zm (Weak.fz (o:=4) (by rfl)) ?_;refine Zb [] _ _ _ _ ?_;simp (disch:=omega) only [List.map_cons,List.map_nil,List.set_cons_succ,List.set_cons_zero,go_sem,seval];refine cD ?_ ?_<;>intro h4<;>simp (disch:=omega) only [Sh.out h4,go_sem,seval]
       ·have e:Qg t sp k g d s M=(Vs,16):=by rw [Qg,if_neg h1,if_neg h2',if_neg h3,if_pos h4]
        rw [e];exact we (by simp (disch:=omega) only [Vs,zShe,List.map_nil,go_sem,seval])
       ·have e:Qg t sp k g d s M=(⟨max g.1 (nth sp k).opn+(nth sp k).serv,s+g.1-d,{ M with times_c:=false,times:=M.times++ [⟨g.1,max g.1 (nth sp k).opn,0,false⟩],miles:=M.miles+g.2.1 }⟩,0):=by rw [Qg,if_neg h1,if_neg h2',if_neg h3,if_neg h4]
        rw [e];exact we
theorem Zf6 {x t sp k L b} (hs:0<sp.length) (hc:0<k->L.she.times_c=false) (he:(nxtF x t sp k L b).2=0):(nxtF x t sp k L b).1.she.times_c=false:=by
 have hm:0<k->(Yu k (XK t L b) b L.she).times_c=false:=fun h=>by rw [Yu,if_neg (by omega)];exact hc h
 unfold nxtF at he ⊢
 generalize goL x t sp k (XK t L b)=g at *
 generalize XK t L b=d at *
 generalize QT L b=s at *
 generalize Yu k d b L.she=m at *
 unfold Qg at he ⊢
 split at he
 ·simp at he
 ·rename_i c1;rw [if_neg c1]
  split at he
  ·rename_i c2;rw [if_pos c2]
   split at he
   ·simp at he
   ·rename_i c3;rw [if_neg c3]
    split at he
    ·simp at he
    ·rename_i c4;rw [if_neg c4];exact hm (by omega)
  ·rename_i c2;rw [if_neg c2]
   split at he
   ·simp at he
   ·rename_i c3;rw [if_neg c3]
    split at he
    ·simp at he
    ·rename_i c4;rw [if_neg c4]
structure LabO (n k:Nat) (L:Lab):Prop where
 rng:LabR k L
 len:k<=n->L.she.times.length=k
 clip:0<k->L.she.times_c=false
theorem Zbo {x t sp k L b} (hok:TrpOk x t sp) (hs:0<sp.length) (hk:k<=sp.length) (h:LabO sp.length k L) (he:(nxtF x t sp k L b).2=0):LabO sp.length (k+1) (nxtF x t sp k L b).1 :=
 ⟨Zf8 hok hk h.rng he,fun hk2=>J7 (h.len hk) he (by omega),fun _=>Zf6 hs h.clip he⟩
theorem ZbR {x t sp} (hok:TrpOk x t sp) {st:Int} (hst:0<=st/\st<=4096):LabO sp.length 0 (labF t st) :=
 ⟨⟨by have:=hok.opn;simp only [labF];omega,by simp [labF],by simp [labF,zShe]⟩,fun _=>rfl,fun h=>by omega⟩
theorem ZgR (x:Inst) (t:Typ) (r:Rte) (c:Bool) (sp:List Stp) (hok:TrpOk x t sp) (k:Nat) (hk:k<=sp.length) (hs1:0<sp.length) (L:Lab) (hL:LabO sp.length k L) (b:Bool) :
  PT 212 [.p (Zme x t r c sp),.p (Zao L),.p (.int .i64 (k:Nat)),.p (.bool b)] [.p (Zao (nxtF x t sp k L b).1),.p (.int .i64 (nxtF x t sp k L b).2)] :=
 Zqt x t r c sp hok k hk hs1 L hL.rng (hL.len hk) hL.clip b
theorem ZBu (x:Inst) (t:Typ) (r:Rte) (c:Bool) (sp:List Stp) (hok:TrpOk x t sp) (hs1:0<sp.length) (hst:0<=r.start/\r.start<=4096) (bs:List Bool) (d:Bool) (hb:bs.length=sp.length+1) :
  PT 177 [.p (Zme x t r c sp),.p (.list d (bs.map eB))] [.p (Zo3 (YD x t sp 0 (labF t r.start) bs).1.she),.p (.int .i64 (YD x t sp 0 (labF t r.start) bs).2)]:=by
 have hsl:=hok.len;refine Zc [] Tryz.func177 rfl ZuI ?_;simp (disch:=omega) only [Tryz.f177,go_sem,seval];refine (Zcc x t r c sp).use ?_;simp (disch:=omega) only [go_sem,seval]
 refine Zg [2,4,6,13,14] (fun q:Nat×Lab=> [(15,.p (.int .i64 q.1))]) (fun q=> [X9 x t r c sp,.cells [.p (.bool false),.p (.int .i64 0),.p (.list true []),.p (.int .i64 0),.p (.int .i64 0)],YV q.2])
  (fun q=>q.1<=bs.length/\YD x t sp 0 (labF t r.start) bs=YD x t sp q.1 q.2 (bs.drop q.1)/\LabO sp.length q.1 q.2) (fun q=>bs.length-q.1) (0,labF t r.start) ⟨by simp,by simp,ZbR hok hst⟩ (Weak.mk ?_) ?_
 ·simp (disch:=omega) only [X9,YV,go_sem,seval]
 ·rintro ⟨k,L⟩ ⟨hk,hrun,hL⟩;simp only at hk hrun hL;simp (disch:=omega) only [X9,YV,go_sem,seval];refine cD ?_ ?_<;>intro h1<;>simp (disch:=omega) only [Sh.out h1,go_sem,seval]
  ·have hk2:k<bs.length:=by omega
   have hdrop:bs.drop k=nth bs k::bs.drop (k+1):=by rw [List.drop_eq_getElem_cons hk2,Zd hk2]
   rw [hdrop,YD] at hrun;have cn:=ZgR x t r c sp hok k (by omega) hs1 L hL (nth bs k);have hL2:=Zbo (x:=x) (t:=t) (b:=nth bs k) hok hs1 (by omega) hL
   generalize nxtF x t sp k L (nth bs k)=N at *
   refine Y7 cn ?_;simp (disch:=omega) only [go_sem,seval];refine cD ?_ ?_<;>intro h2<;>simp (disch:=omega) only [Sh.out h2,go_sem,seval]
   ·rw [hrun,if_neg h2];exact we (by simp (disch:=omega) only [Vs,zShe,List.map_nil,go_sem,seval])
   ·rw [if_pos (by omega)] at hrun;exact ⟨(k+1,N.1),⟨by simp only;omega,hrun,hL2 (by omega)⟩,by simp only;omega,Weak.mk (by simp (disch:=omega) only [X9,YV,go_sem,seval])⟩
  ·have hkl:k=bs.length:=by omega
   subst hkl;rw [List.drop_length,YD] at hrun;rw [hrun];exact we
theorem Zng (l m:Lab):PC 215 [.p (Zao l),.p (Zao m)] (.bool (ZD l m)):=by
 refine Za Tryz.func215 rfl Ztn ?_;simp (disch:=omega) only [Tryz.f215,go_sem,seval];refine gT ?_ ?_<;>intro h<;>simp (disch:=omega) only [Sh.out h,go_sem,seval]
 ·simp [ZD,h]
 ·simp [ZD,h]
def gH (x:Inst) (t:Typ) (r:Rte) (c:Bool) (sp:List Stp) (o:List Lab) (f z:Lab):List AM.Obj:= [X9 x t r c sp,.dead,.elems 7 (o.map Zao),YV f,YV z]
theorem Zoo (x:Inst) (t:Typ) (r:Rte) (c:Bool) (sp:List Stp) (o:List Lab) (f z m:Lab):ACalls Tryz.prog 214 [.p (Zao m),.ptr 4 0] (gH x t r c sp o f z) fun y H'=>y= .p (.bool (ZD m z))/\H'=gH x t r c sp o f z:=by
 refine Zc [] Tryz.func214 rfl ZuB ?_;simp (disch:=omega) only [Tryz.f214,gH,X9,YV,go_sem,seval];refine (Zng m z).use ?_;simp (disch:=omega) only [go_sem,seval];exact we (by simp (disch:=omega) only [gH,X9,YV,go_sem,seval])
theorem Ze0 (x:Inst) (t:Typ) (r:Rte) (c:Bool) (sp:List Stp) (o:List Lab) (f z:Lab) (hl:o.length<=2097152) :
  ACalls Tryz.prog 239 [.sl 2 0 o.length o.length,.fn (.func 214) [] [.ptr 4 0]] (gH x t r c sp o f z) fun y H'=>y= .p (.int .i64 (gIx (fun m=>ZD m z) o))/\H'=gH x t r c sp o f z:=by
 refine Zc [] Tryz.func239 rfl Zqe ?_;simp (disch:=omega) only [Tryz.f239,gH,X9,YV,go_sem,seval];refine Zg [0,1,7] (fun k:Nat=> [(8,.p (.int .i64 k))]) (fun _=>gH x t r c sp o f z) (fun k=>k<=o.length/\ ∀j,j<k->ZD (nth o j) z=false) (fun k=>o.length-k) 0 (by simp) (Weak.mk ?_) ?_
 ·simp (disch:=omega) only [gH,X9,YV,go_sem,seval]
 ·rintro k ⟨hk,hno⟩;simp (disch:=omega) only [gH,X9,YV,go_sem,seval];refine cD ?_ ?_<;>intro h<;>simp (disch:=omega) only [Sh.out h,go_sem,seval]
  ·have hk2:k<o.length:=by omega
   have hg:=Zoo x t r c sp o f z (nth o k);simp (disch:=first | omega | (simp only [List.length_cons,List.length_nil,List.length_append,List.length_map,List.length_take,List.length_drop]<;>omega)) only [Z2 hk2,hk2,go_sem,seval];simp (disch:=omega) only [gH,X9,YV,go_sem,seval] at hg;refine hg.useH ?_;simp (disch:=omega) only [go_sem,seval];refine cD ?_ ?_<;>intro h2<;>simp (disch:=omega) only [Sh.out h2,go_sem,seval]
   ·rw [Zma (f:=fun m=>ZD m z) hk2 h2 hno];exact we (by simp (disch:=omega) only [gH,X9,YV,go_sem,seval])
   ·exact ⟨k+1,⟨by omega,Zl.2 ⟨hno,by simpa using h2⟩⟩,by omega,Weak.mk (by simp (disch:=omega) only [gH,X9,YV,go_sem,seval])⟩
  ·have hkl:k=o.length:=by omega
   subst hkl;rw [Zlu hno];exact we (by simp (disch:=omega) only [gH,X9,YV,go_sem,seval])
theorem Zam (x:Inst) (t:Typ) (r:Rte) (c:Bool) (sp:List Stp) (o:List Lab) (f z:Lab) (hl:o.length<=2097152) :
  ACalls Tryz.prog 213 [.sl 2 0 o.length o.length,.fn (.func 214) [] [.ptr 4 0]] (gH x t r c sp o f z) fun y H'=>y= .p (.bool (o.any fun m=>ZD m z))/\H'=gH x t r c sp o f z:=by
 refine Zc [] Tryz.func213 rfl Zs7 ?_;simp (disch:=omega) only [Tryz.f213,go_sem,seval];refine (Ze0 x t r c sp o f z hl).useH ?_;simp (disch:=omega) only [go_sem,seval];rw [Zlk];exact we (by simp (disch:=omega) only [gH,X9,YV,go_sem,seval])
def Zpb (x:Inst) (t:Typ) (sp:List Stp) (r:List Bool) (k:Nat) (f:Lab) (bs:List Bool) (l:List Lab):List Lab:=bs.filterMap (Yj x t sp k f)++Y5 (Yj x t sp) (chF r) k l
theorem Zuv (x:Inst) (t:Typ) (r:Rte) (c:Bool) (sp:List Stp) (hok:TrpOk x t sp) (hs1:0<sp.length) (k:Nat) (hk:k<=sp.length) (hrl:r.rests.length<=1048576) (l:List Lab) (d:Bool) (hl:l.length<=1048576) (hL: ∀L∈l,LabO sp.length k L) :
  PC 176 [.p (Zme x t r c sp),.p (.list d (l.map Zao)),.p (.int .i64 (k:Nat))] (.list false ((Z6 ZD [] (Y5 (Yj x t sp) (chF r.rests) k l)).map Zao)):=by
 have hsl:=hok.len;refine Zc [2,16] Tryz.func176 rfl Zti ?_;simp (disch:=omega) only [Tryz.f176,go_sem,seval];refine Zm (Weak.fz (o:=1) (by rfl)) ?_;simp (disch:=omega) only [List.map_cons,List.map_nil,List.set_cons_succ,List.set_cons_zero,go_sem,seval];refine Zo [1,2,3] (fun cb:Bool=> [(7,.p (.list cb ((chF r.rests k).map eB)))]) (fun _=> [X9 x t r c sp,.dead]) (fun _=>True) ?_ ?_
 ·simp (disch:=omega) only [go_sem,seval];refine cD ?_ ?_<;>intro h<;>simp (disch:=omega) only [Sh.out h,go_sem,seval]
  ·have hk2:k<r.rests.length:=by omega
   have e:chF r.rests k=(r.rests.take (k+1)).drop k:=by
    rw [chF,List.getElem?_eq_getElem hk2,List.take_succ_eq_append_getElem hk2,List.drop_left' (by simp;omega)]
   exact ⟨r.rests_c&&decide ((k:Int)+1=(r.rests.length:Int)),Weak.mk (by simp (disch:=omega) only [X9,e,go_sem,seval])⟩
  ·have e:chF r.rests k= [false,true]:=by rw [chF,List.getElem?_eq_none (by omega)]
   exact ⟨false,Weak.mk (by simp (disch:=omega) only [X9,e,List.map_cons,List.map_nil,go_sem,seval])⟩
 ·intro cb _
  have hch:(chF r.rests k).length<=2:=by unfold chF;split<;>simp
  refine Zb [16] _ _ _ _ ?_;simp (disch:=omega) only [X9,go_sem,seval]
  refine ZZ [16] [2,3,7,29,30] (fun q:Nat×List Lab=> [(8,.sl 2 0 q.2.length q.2.length),(31,.p (.int .i64 q.1))]) (fun q=> [X9 x t r c sp,.dead,.elems 7 (q.2.map Zao)])
   (fun q=>q.1<=l.length/\Z6 ZD [] (Y5 (Yj x t sp) (chF r.rests) k l)=Z6 ZD q.2 (Y5 (Yj x t sp) (chF r.rests) k (l.drop q.1))/\q.2.length<=2*q.1) (fun q=>l.length-q.1) (0,[]) (by simp) (Weak.ofNil 8 7 rfl (by simp) (Weak.mk ?_)) ?_
  ·simp (disch:=omega) only [X9,List.map_nil,List.length_nil,go_sem,seval]
  ·rintro ⟨i,o⟩ ⟨hi,hpr,hol⟩;simp only at hi hpr hol;simp (disch:=omega) only [X9,go_sem,seval];refine cD ?_ ?_<;>intro h1<;>simp (disch:=omega) only [Sh.out h1,go_sem,seval]
   ·have hi2:i<l.length:=by omega
    have hLi:=hL _ (Zn hi2)
    have hdrop:l.drop i=nth l i::l.drop (i+1):=by rw [List.drop_eq_getElem_cons hi2,Zd hi2]
    rw [hdrop] at hpr;have hpr:Z6 ZD [] (Y5 (Yj x t sp) (chF r.rests) k l)=Z6 ZD o (Zpb x t sp r.rests k (nth l i) ((chF r.rests k).drop 0) (l.drop (i+1))):=hpr
    refine Zg [2,3,7,10,29,30,31,35,36] (fun q:Nat×List Lab=> [(8,.sl 2 0 q.2.length q.2.length),(37,.p (.int .i64 q.1))]) (fun q=> [X9 x t r c sp,.dead,.elems 7 (q.2.map Zao),YV (nth l i)])
     (fun q=>q.1<=(chF r.rests k).length/\Z6 ZD [] (Y5 (Yj x t sp) (chF r.rests) k l)=Z6 ZD q.2 (Zpb x t sp r.rests k (nth l i) ((chF r.rests k).drop q.1) (l.drop (i+1)))/\q.2.length<=2*i+q.1) (fun q=>(chF r.rests k).length-q.1) (0,o) ⟨by simp,hpr,hol⟩ (Weak.mk ?_) ?_
    ·simp (disch:=omega) only [X9,YV,go_sem,seval]
    ·clear hpr hol;rintro ⟨j,o⟩ ⟨hj,hpr,hol⟩;simp only at hj hpr hol;simp (disch:=omega) only [X9,YV,go_sem,seval];refine cD ?_ ?_<;>intro h2<;>simp (disch:=omega) only [Sh.out h2,go_sem,seval]
     ·have hj2:j<(chF r.rests k).length:=by omega
      have hd2:(chF r.rests k).drop j=nth (chF r.rests k) j::(chF r.rests k).drop (j+1):=by rw [List.drop_eq_getElem_cons hj2,Zd hj2]
      have cn:=ZgR x t r c sp hok k hk hs1 (nth l i) hLi (nth (chF r.rests k) j);have ho2:Yj x t sp k (nth l i) (nth (chF r.rests k) j)=if (nxtF x t sp k (nth l i) (nth (chF r.rests k) j)).2=0 then some (nxtF x t sp k (nth l i) (nth (chF r.rests k) j)).1 else none:=rfl;rw [hd2,Zpb,List.filterMap_cons,ho2] at hpr
      generalize nxtF x t sp k (nth l i) (nth (chF r.rests k) j)=N at *
      refine Y7 cn ?_;simp (disch:=omega) only [go_sem,seval];refine gT ?_ ?_<;>intro h3<;>simp (disch:=omega) only [Sh.out h3,go_sem,seval]
      ·have hcl:=Zam x t r c sp o (nth l i) N.1 (by omega);simp (disch:=omega) only [gH,X9,YV,go_sem,seval] at hcl;refine hcl.useH ?_;simp (disch:=omega) only [go_sem,seval];rw [if_pos h3] at hpr;have hpr:Z6 ZD [] (Y5 (Yj x t sp) (chF r.rests) k l)=if (o.any fun m=>ZD m N.1)=true then Z6 ZD o (Zpb x t sp r.rests k (nth l i) ((chF r.rests k).drop (j+1)) (l.drop (i+1))) else Z6 ZD (o++ [N.1]) (Zpb x t sp r.rests k (nth l i) ((chF r.rests k).drop (j+1)) (l.drop (i+1))):=hpr;refine cD ?_ ?_<;>intro h4<;>simp (disch:=omega) only [Sh.out h4,go_sem,seval]
       ·rw [if_neg (by simpa using h4)] at hpr;exact ⟨(j+1,o++ [N.1]),⟨by simp only;omega,hpr,by simp;omega⟩,by simp only;omega,Weak.mk (by simp (disch:=omega) only [X9,YV,List.length_append,List.length_cons,List.length_nil,List.map_append,List.map_cons,List.map_nil,go_sem,seval])⟩
       ·rw [if_pos (by simpa using h4)] at hpr;exact ⟨(j+1,o),⟨by simp only;omega,hpr,by simp only;omega⟩,by simp only;omega,Weak.mk (by simp (disch:=omega) only [X9,YV,go_sem,seval])⟩
      ·rw [if_neg h3] at hpr;exact ⟨(j+1,o),⟨by simp only;omega,hpr,by simp only;omega⟩,by simp only;omega,Weak.mk (by simp (disch:=omega) only [X9,YV,go_sem,seval])⟩
     ·have hjl:j=(chF r.rests k).length:=by omega
      subst hjl;rw [List.drop_length,Zpb,List.filterMap_nil,List.nil_append] at hpr;exact ⟨(i+1,o),⟨by simp only;omega,hpr,by simp only;omega⟩,by simp only;omega,Weak.mk (by simp (disch:=omega) only [X9,go_sem,seval])⟩
   ·have hil:i=l.length:=by omega
    subst hil;have e:Y5 (Yj x t sp) (chF r.rests) k []= []:=rfl;rw [List.drop_length,e,Z6] at hpr;rw [hpr];refine Zm (Weak.fz (o:=2) (by rfl)) ?_;refine Zb [] _ _ _ _ ?_;simp (disch:=omega) only [List.map_cons,List.map_nil,List.set_cons_succ,List.set_cons_zero,go_sem,seval];exact we
def Zxn : PV:= .agg [.list true [],.list true [],.list true [],.list true [],.list true [],.list true [],.str [],.int .i64 0,.int .i64 0,.int .i64 0,.list true [],.int .i64 0,.int .i64 0,.int .i64 0,.int .i64 0,.int .i64 0,.int .i64 0,.int .i64 0,.int .i64 0,.int .i64 0,.int .i64 0,.int .i64 0,.list true [],.list true [],.list true []]
theorem Zm0 (x:Inst) (r:Rte) (hty:0<=r.typ/\r.typ<(x.types.length:Int)) (htl:x.types.length<=1048576) (hvl:r.visits.length<=20) (hs: ¬(0<=r.start/\r.start<=4096)) :
  PT 174 [.p (ZT x),.p (eRte r)] [.p Zxn,.p (.bool false)]:=by
 have e1: ¬r.typ<0:=by omega
 have e2: ¬(x.types.length:Int)<=r.typ:=by omega
 refine Zc [] Tryz.func174 rfl ZlA ?_;simp (disch:=omega) only [Tryz.f174,e1,e2,go_sem,seval];refine gF ?_ ?_<;>intro h1<;>simp (disch:=omega) only [Sh.out h1,go_sem,seval]
 ·exact we (by simp (disch:=omega) only [Zxn,go_sem,seval])
 ·refine gF ?_ ?_<;>intro h2<;>simp (disch:=omega) only [Sh.out h2,go_sem,seval]
  ·exact we (by simp (disch:=omega) only [Zxn,go_sem,seval])
  ·omega
theorem ZdG {x t sp} : ∀(bs:List Bool) (k:Nat) (L:Lab),¬(YD x t sp k L bs).2=0->(YD x t sp k L bs).1=Vs
 | [],k,L,h=>by simp [YD] at h
 | b::bs,k,L,h=>by
  rw [YD] at h ⊢
  split
  ·rename_i c;rw [if_pos c] at h;exact ZdG bs (k+1) _ h
  ·rfl
theorem Zgz (n:Nat):List.replicate n false∈Yv (List.replicate n false):=by
 rw [WX];simp
theorem Zjp {l:List Lab} (h:fmL VO none l=none):l= []:=by
 cases l with
 | nil=>rfl
 | cons a l =>
  obtain ⟨z,hz,_⟩:=WR (fin:=VO) l a;have:fmL VO none (a::l)=fmL VO (some a) l:=rfl;rw [this,hz] at h;cases h
theorem ZhA {x t sp} {st:Int} {r:List Bool} (h:fmL VO none ((Yo r (sp.length+1)).filterMap (JW (Yj x t sp) 0 (labF t st)))=none): ¬(YD x t sp 0 (labF t st) (J1 r (sp.length+1))).2=0:=fun h0=>by
 have h1:=Zjp h;have h2:J1 r (sp.length+1)∈Yo r (sp.length+1):=List.mem_map.2 ⟨_,Zgz _,rfl⟩;have h3:=List.filterMap_eq_nil_iff.1 h1 _ h2;rw [Wl,if_pos h0] at h3
 cases h3
theorem Zfp {x t sp} {st:Int} {r:List Bool} (hr:r.length<=sp.length+1) (h:fmL VO none (U8 ZD (Yj x t sp) (chF r) (sp.length+1) 0 [labF t st])=none): ¬(YD x t sp 0 (labF t st) (J1 r (sp.length+1))).2=0 :=
 ZhA (by rw [Zcd,YT,ZbH r _ hr] at h;exact h)
def Uo (x:Inst) (r:Rte):She×Int:=if 0<=r.start/\r.start<=4096/\r.rests.length<=r.visits.length+1 then X0 x r else (zShe,2)
theorem Zks {x t sp} {ch:Nat->List Bool} {k:Nat} {l:List Lab} (hok:TrpOk x t sp) (hs:0<sp.length) (hk:k<=sp.length) (h: ∀L∈l,LabO sp.length k L): ∀L∈Z6 ZD [] (Y5 (Yj x t sp) ch k l),LabO sp.length (k+1) L:=fun L hL=>by
 have h1:=V1 ZD _ _ L hL;rw [List.nil_append] at h1;obtain ⟨a,ha,hb⟩:=List.mem_flatMap.1 h1;obtain ⟨b,_,hn⟩:=List.mem_filterMap.1 hb;rw [Yj] at hn
 split at hn
 ·rename_i c;simp at hn;subst hn;exact Zbo hok hs hk (h a ha) c
 ·cases hn
theorem QS : ∀(c out:List Lab),(Z6 ZD out c).length<=out.length+c.length
 | [],out=>by simp [Z6]
 | x::c,out=>by
  rw [Z6]
  split
  ·have:=QS c out;simp;omega
  ·have:=QS c (out++ [x]);simp at this ⊢;omega
theorem Zcn {x t sp} {r:List Bool} {k:Nat} : ∀l:List Lab,(Y5 (Yj x t sp) (chF r) k l).length<=2*l.length
 | []=>by simp [Y5]
 | a::l=>by
  have ih:=Zcn (x:=x) (t:=t) (sp:=sp) (r:=r) (k:=k) l;have h1:(Y5 (Yj x t sp) (chF r) k (a::l))=(chF r k).filterMap (Yj x t sp k a)++Y5 (Yj x t sp) (chF r) k l:=rfl;have h2:=List.length_filterMap_le (Yj x t sp k a) (chF r k)
  have h3:(chF r k).length<=2:=by unfold chF;split<;>simp
  rw [h1,List.length_append,List.length_cons];omega
theorem Zmr (x:Inst) (r:Rte) (hx:InstOk x) (hl:r.visits.length<=1048576) (hrl:r.rests.length<=1048576) (hty:0<=r.typ/\r.typ<(x.types.length:Int)) (h0:Xm x r.visits=0) :
  PT 102 [.p (ZT x),.p (eRte r)] [.p (Zo3 (Uo x r).1),.p (.int .i64 (Uo x r).2)]:=by
 have hd:=Je hx;have hsq:=Wg h0;have hol:=hd.ord;have htl:=hd.typ;have hvl:=hsq.len hol;have hok:=Qz hx hty hsq;have hsl:(ZU x r.visits).length=r.visits.length:=XH
 have hs1:0<(ZU x r.visits).length:=by
  rw [hsl];have:=hsq.ne
  cases hv:r.visits with
  | nil=>exact absurd hv this
  | cons a b=>simp
 refine Zc [6,13,14] Tryz.func102 rfl ZrL ?_;simp (disch:=omega) only [Tryz.f102,go_sem,seval]
 by_cases hs:0<=r.start/\r.start<=4096
 ·refine Y7 (ZpZ x r hx hty h0 hs) ?_;simp (disch:=omega) only [go_sem,seval];refine cD ?_ ?_<;>intro h1<;>simp (disch:=omega) only [Sh.out h1,go_sem,seval]
  ·have e:Uo x r=(zShe,2):=by rw [Uo,if_neg (by omega)]
   rw [e];exact we (by simp (disch:=omega) only [zShe,List.map_nil,go_sem,seval])
  ·have hrs:r.rests.length<=r.visits.length+1:=by omega
   have e:Uo x r=X0 x r:=by rw [Uo,if_pos ⟨hs.1,hs.2,hrs⟩]
   have hbn:= @Zfp x (XX x r) (ZU x r.visits) r.start r.rests (by rw [hsl];exact hrs);rw [e,X0,Zcl (by rw [hsl];exact hrs)];refine (Zcc x (XX x r) r false (ZU x r.visits)).use ?_;simp (disch:=omega) only [go_sem,seval]
   generalize hT:XX x r=t at *
   generalize hS:ZU x r.visits=sp at *
   refine Zm (Weak.fz (o:=4) (by rfl)) ?_;refine Zb [13,14] _ _ _ _ ?_;simp (disch:=omega) only [List.map_cons,List.map_nil,List.set_cons_succ,List.set_cons_zero,go_sem,seval]
   refine ZZ [13,14] [3,4,6,8,38] (fun q:Nat×List Lab=> [(9,.p (.list false (q.2.map Zao))),(39,.p (.int .i64 q.1))]) (fun _=> [Ze x,Xd r,.cells [.p (.bool false),.p (.int .i64 0),.p (.list true []),.p (.int .i64 0),.p (.int .i64 0)],X9 x t r false sp,.dead])
    (fun q=>q.1<=sp.length+1/\U8 ZD (Yj x t sp) (chF r.rests) (sp.length+1) 0 [labF t r.start]=U8 ZD (Yj x t sp) (chF r.rests) (sp.length+1-q.1) q.1 q.2/\(∀L∈q.2,LabO sp.length q.1 L)/\q.2.length<=2^q.1) (fun q=>sp.length+1-q.1) (0,[labF t r.start]) ⟨by simp,by simp,fun L hL=>by simp at hL;subst hL;exact ZbR hok hs,by simp⟩ (Weak.mk ?_) ?_
   ·simp (disch:=omega) only [Ze,Xd,X9,List.map_cons,List.map_nil,List.set_cons_succ,List.set_cons_zero,List.cons_append,List.nil_append,go_sem,seval]
   ·rintro ⟨k,l⟩ ⟨hk,hit,hlo,hll⟩;simp only at hk hit hlo hll;simp (disch:=omega) only [Ze,Xd,X9,go_sem,seval];refine cD ?_ ?_<;>intro h2<;>simp (disch:=omega) only [Sh.out h2,go_sem,seval]
    ·have hk2:k<=sp.length:=by omega
     have hp20:2^k<=2^20:=Nat.pow_le_pow_right (by omega) (by omega);refine (Zuv x t r false sp hok hs1 k hk2 hrl l false (by omega) hlo).use ?_;simp (disch:=omega) only [go_sem,seval]
     have hn:U8 ZD (Yj x t sp) (chF r.rests) (sp.length+1-k) k l=U8 ZD (Yj x t sp) (chF r.rests) (sp.length+1-(k+1)) (k+1) (Z6 ZD [] (Y5 (Yj x t sp) (chF r.rests) k l)):=by
      have e:sp.length+1-k=(sp.length+1-(k+1))+1:=by omega
      rw [e,U8]
     have hln:=QS (Y5 (Yj x t sp) (chF r.rests) k l) [];have hln2:=Zcn (x:=x) (t:=t) (sp:=sp) (r:=r.rests) (k:=k) l;exact ⟨(k+1,Z6 ZD [] (Y5 (Yj x t sp) (chF r.rests) k l)),⟨by simp only;omega,hit.trans hn,Zks hok hs1 hk2 hlo,by simp at hln;simp only [Nat.pow_succ];omega⟩,by simp only;omega,Weak.mk (by simp (disch:=omega) only [Ze,Xd,X9,List.set_cons_succ,List.set_cons_zero,go_sem,seval])⟩
    ·have hkn:k=sp.length+1:=by omega
     subst hkn;rw [Nat.sub_self,U8] at hit;rw [hit] at hbn ⊢;clear hit;refine cD ?_ ?_<;>intro h3<;>simp (disch:=omega) only [Sh.out h3,go_sem,seval]
     ·have hl0:l= []:=List.eq_nil_of_length_eq_zero (by omega);subst hl0;have hbn:=hbn rfl;refine XC (ZgG 3 rfl rfl ?_);simp (disch:=omega) only [go_sem,seval];refine ⟨_,_,Zjd (e:=4) rfl Tryz.underlying42 (by kernel_rfl) rfl rfl rfl ?_ ?_ ?_,?_⟩
      ·simp
      ·simp;omega
      ·intro q hq;obtain ⟨b,_,rfl⟩:=List.mem_map.1 hq
       rfl
      ·have hpl:(J1 r.rests (sp.length+1)).length=sp.length+1:=by simp [J1];omega
       have hpad:r.rests.map eB++(PV.bool false::List.replicate r.visits.length (PV.bool false)).drop (r.rests.map eB).length=(J1 r.rests (sp.length+1)).map eB:=by
        rw [J1,List.map_append,<- List.replicate_succ,List.drop_replicate,List.map_replicate,hsl,List.length_map];rfl
       have hcr:=ZBu x t r false sp hok hs1 hs (J1 r.rests (sp.length+1)) false hpl;have hbad:=ZdG _ _ _ hbn;rw [hbad] at hcr;simp only [List.set_cons_succ,List.set_cons_zero];rw [hpad]
       generalize hRP:J1 r.rests (sp.length+1)=rp at *
       refine Zm (Weak.fz (o:=5) (by rfl)) ?_;refine Zb [] _ _ _ _ ?_;simp (disch:=omega) only [List.map_cons,List.map_nil,List.set_cons_succ,List.set_cons_zero,go_sem,seval];rw [if_pos (by omega)];refine Y7 hcr ?_;simp (disch:=omega) only [go_sem,seval];have hfm0:fmL VO none ([]:List Lab)=none:=rfl;rw [hfm0];exact we (by simp (disch:=omega) only [Vs,zShe,List.map_nil,go_sem,seval])
     ·cases l with
      | nil=>simp at h3
      | cons l0 l =>
       have e0:elt ((l0::l).map Zao) 0=Zao l0:=rfl;have hn0:nth (l0::l) 0=l0:=rfl;simp (disch:=first | omega | (simp only [List.length_cons,List.length_nil,List.length_append,List.length_map,List.length_take,List.length_drop]<;>omega)) only [e0,hn0,List.take_length,go_sem,seval];have hfm:fmL VO none (l0::l)=fmL VO (some l0) l:=rfl;rw [hfm]
       have hlen:l.length<=2097152:=by
        have hp20:2^(sp.length+1)<=2^21:=Nat.pow_le_pow_right (by omega) (by omega);simp at hll;omega
       refine Zg [4,12,65,66] (fun q:Nat×Lab=> [(67,.p (.int .i64 q.1))]) (fun q=> [Ze x,Xd r,.cells [.p (.bool false),.p (.int .i64 0),.p (.list true []),.p (.int .i64 0),.p (.int .i64 0)],X9 x t r false sp,.dead,YV q.2])
        (fun q=>q.1<=l.length/\fmL VO (some l0) l=fmL VO (some q.2) (l.drop q.1)) (fun q=>l.length-q.1) (0,l0) (by simp) (Weak.mk ?_) ?_
       ·simp (disch:=omega) only [Ze,Xd,X9,YV,List.set_cons_succ,List.set_cons_zero,hn0,go_sem,seval]
       ·rintro ⟨i,m⟩ ⟨hi,hm⟩;simp only at hi hm;simp (disch:=omega) only [Ze,Xd,X9,YV,List.take_length,go_sem,seval];refine cD ?_ ?_<;>intro h4<;>simp (disch:=omega) only [Sh.out h4,go_sem,seval]
        ·have hi2:i<l.length:=by omega
         have hdrop:l.drop i=nth l i::l.drop (i+1):=by rw [List.drop_eq_getElem_cons hi2,Zd hi2]
         rw [hdrop,fmL] at hm;refine cD ?_ ?_<;>intro h5<;>simp (disch:=omega) only [Sh.out h5,go_sem,seval]
         ·rw [if_pos (show VO (nth l i)<VO m from h5)] at hm;exact ⟨(i+1,nth l i),⟨by simp only;omega,hm⟩,by simp only;omega,Weak.mk (by simp (disch:=omega) only [Ze,Xd,X9,YV,go_sem,seval])⟩
         ·rw [if_neg (show ¬VO (nth l i)<VO m from h5)] at hm;exact ⟨(i+1,m),⟨by simp only;omega,hm⟩,by simp only;omega,Weak.mk (by simp (disch:=omega) only [Ze,Xd,X9,YV,go_sem,seval])⟩
        ·have hil:i=l.length:=by omega
         subst hil;rw [List.drop_length,fmL] at hm;rw [hm];exact we
 ·have e:Uo x r=(zShe,2):=by rw [Uo,if_neg (fun h=>hs ⟨h.1,h.2.1⟩)]
  rw [e];refine Y7 (Zm0 x r hty htl hvl hs) ?_;simp (disch:=omega) only [Zxn,go_sem,seval];exact we (by simp (disch:=omega) only [zShe,List.map_nil,go_sem,seval])
end Go.Proofs.YthmplgaldjpgiaaGreatDoor.K
set_option linter.unusedVariables false
set_option linter.unusedSimpArgs false
namespace Go.AM
open Go.RowKit
theorem ZjY (k v:Int) (l:List (Int×Int)): ∃l',Zsi (.int .i64 k) (.int .i64 v) (l.map eII)=l'.map eII/\(∀q,Ka l' q=if q=k then v else Ka l q)/\l'.length<=l.length+1:=by
 unfold Zsi;rw [QN]
 cases hm:mix l k with
 | none =>
  refine ⟨l++ [(k,v)],by simp [eII],fun q=> ?_,by simp⟩
  have e1:mix (l++ [(k,v)]) k=some l.length:=by
   unfold mix at hm ⊢;rw [List.findIdx?_append,hm];simp
  by_cases hq:q=k
  ·subst hq;simp [Ka,e1]
  ·rw [if_neg hq];unfold Ka
   have e3:mix (l++ [(k,v)]) q=mix l q:=by
    unfold mix;rw [List.findIdx?_append]
    cases hc:l.findIdx? (fun p=>decide (q=p.1))<;>simp [hq]
   rw [e3]
   cases hc:mix l q with
   | none=>rfl
   | some i =>
    unfold mix at hc;rw [List.findIdx?_eq_some_iff_getElem] at hc;obtain ⟨hi,_⟩:=hc;simp only;rw [List.getElem?_append_left hi]
 | some i =>
  refine ⟨l.set i (k,v),by rw [List.map_set];simp [eII],?_,by simp⟩;have hH:oat [.map (l.map eII)] 0= .map (l.map eII):=rfl;have:=Zfc (H:= [.map (l.map eII)]) (o:=0) (l:=l) (k:=k) (i:=i) (v:=v) (K:=fun _ _=> ∀q,Ka (l.set i (k,v)) q=if q=k then v else Ka l q) hH hm fun h=>h;unfold UC at this;obtain ⟨u,q1,_⟩:=ZaA hm
  have e1:(l.map eII)[i]? =some (eII (k,u)):=by rw [List.getElem?_map,q1];rfl
  simp only [hH,Int.natCast_nonneg,if_true,Int.toNat_natCast,e1,mst] at this;exact this
theorem Zkr {P:Program} {H:List Obj} {t:TypeId} {o:Nat} {l:List (Int×Int)} {k v:Int} {K:V->List Obj->Prop} (hT:Zsu P t=some (.int .i64,some (.int .i64 0))) (hH:oat H o= .map (l.map eII))
  (h: ∀l':List (Int×Int),(∀q,Ka l' q=if q=k then v else Ka l q)->K .junk (H.set o (.map (l'.map eII)))):mst (Zb2 P H t (.mp o) (.p (.int .i64 k)) (.p (.int .i64 v))) K:=by
 obtain ⟨kt,et,h1,h2,h3⟩:=Zd2 hT;obtain ⟨l',e,hg,_⟩:=ZjY k v l;simp only [Zb2,h1,ZbU h2 hH,Option.map_some,mst,e];exact h l' hg
end Go.AM
namespace Go.Proofs.YthmplgaldjpgiaaGreatDoor.K
open Go Go.AM Go.Proofs
set_option maxRecDepth 8000
set_option maxHeartbeats 8000000
def Zh1 (l:List Vis) (k:Nat) (q:Int):Int:=((l.take k).countP fun v=>decide (v.order=q):Nat)
theorem ZhI {l:List Vis} {k:Nat} (h:k<l.length) (q:Int):Zh1 l (k+1) q=if q=(nth l k).order then Zh1 l k q+1 else Zh1 l k q:=by
 unfold Zh1;rw [List.take_succ_eq_append_getElem h,List.countP_append,Zd h]
 by_cases c:l[k].order=q
 ·rw [if_pos c.symm];simp [c]
 ·rw [if_neg (fun e=>c e.symm)];simp [c]
theorem Zjk {l:List Vis} {k:Nat} (h:k<=l.length) (q:Int):0<=Zh1 l k q/\Zh1 l k q<=k:=by
 unfold Zh1;have:=List.countP_le_length (p:=fun v:Vis=>decide (v.order=q)) (l:=l.take k);rw [List.length_take] at this;omega
theorem Ze5 {l:List Vis} {k:Nat} :Ko l k=decide (Zh1 l k (nth l k).order=0):=by
 unfold Ko Zh1;rw [Bool.eq_iff_iff];simp only [Bool.not_eq_true',decide_eq_true_eq];rw [List.any_eq_false]
 have:((List.countP (fun v=>decide (v.order=(nth l k).order)) (l.take k):Nat):Int)=0↔List.countP (fun v=>decide (v.order=(nth l k).order)) (l.take k)=0:=by omega
 rw [this,List.countP_eq_zero]
theorem UH (a b:Int):PC 178 [.p (.int .i64 a),.p (.int .i64 b)] (.bool (Jn a b)):=by
 refine Za Tryz.func178 rfl ZrP ?_;simp (disch:=omega) only [Tryz.f178,go_sem,seval];refine gT ?_ ?_<;>intro h<;>simp (disch:=omega) only [Sh.out h,go_sem,seval]
 ·simp [Jn,h]
 ·simp only [Classical.not_not] at h;simp [Jn,h]
theorem Zj2 (x:Inst) (r:Rte) (s:She) (hty:0<=r.typ/\r.typ<(x.types.length:Int)) (ho:x.orders.length<=1048576) (ht:x.types.length<=1048576) (hl:r.visits.length<=1048576) (hv:Inr x r.visits)
  (hc:0<=(XX x r).fixed/\(XX x r).fixed<=100000/\0<=(XX x r).perMile/\(XX x r).perMile<=100/\0<=(XX x r).perTick/\(XX x r).perTick<=100) (ho2:0<=(XX x r).opn/\(XX x r).opn<=4096)
  (hf: -4096<=s.fin/\s.fin<=8192) (hm:0<=s.miles/\s.miles<=1000000) :
  PC 103 [.p (ZT x),.p (eRte r),.p (Zo3 s)] (ZfF (ZpB x r s)):=by
 have hti:r.typ.toNat<x.types.length:=by omega
 have hT:Zsu Tryz.prog 253=some (.int .i64,some (.int .i64 0)):=by kernel_rfl
 unfold ZpB;have htd:nth x.types r.typ.toNat=XX x r:=rfl
 generalize XX x r=t at *
 have e1: ¬r.typ<0:=by omega
 have e2: ¬(x.types.length:Int)<=r.typ:=by omega
 have p1:0<=t.perMile*s.miles/\t.perMile*s.miles<=100*1000000:=⟨Int.mul_nonneg (by omega) (by omega),Int.mul_le_mul (by omega) (by omega) (by omega) (by omega)⟩
 have hW: -8192<=s.fin-t.opn/\s.fin-t.opn<=8192:=by omega
 have p2: -819200<=t.perTick*(s.fin-t.opn)/\t.perTick*(s.fin-t.opn)<=819200:=by
  generalize s.fin-t.opn=w at hW;have a1:=Int.mul_le_mul_of_nonneg_left hW.2 (show 0<=t.perTick by omega);have a2:=Int.mul_le_mul_of_nonneg_left hW.1 (show 0<=t.perTick by omega);omega
 have p3: -128<=(s.fin-t.opn).tdiv 64/\(s.fin-t.opn).tdiv 64<=128:=by
  generalize s.fin-t.opn=w at hW;rcases Int.le_total 0 w with h | h
  ·rw [Int.tdiv_eq_ediv_of_nonneg h];omega
  ·have:w.tdiv 64= -((-w) / 64):=by rw [<- Int.tdiv_eq_ediv_of_nonneg (by omega),Int.neg_tdiv,Int.neg_neg]
   rw [this];omega
 have p4:0<=(s.fin-t.opn).tdiv 64*(s.fin-t.opn).tdiv 64/\(s.fin-t.opn).tdiv 64*(s.fin-t.opn).tdiv 64<=16384:=by
  generalize (s.fin-t.opn).tdiv 64=q at p3;refine ⟨?_,?_⟩
  ·rcases Int.le_total 0 q with h | h
   ·exact Int.mul_nonneg h h
   ·exact Int.mul_nonneg_of_nonpos_of_nonpos h h
  ·rcases Int.le_total 0 q with h | h
   ·have:=Int.mul_le_mul p3.2 p3.2 h (by omega);omega
   ·have h2:0<= -q:=by omega
    have:=Int.mul_le_mul (show-q<=128 by omega) (show-q<=128 by omega) h2 (by omega);rw [Int.neg_mul_neg] at this;omega
 refine Za Tryz.func103 rfl ZsD ?_;simp (disch:=omega) only [Tryz.f103,e1,e2,htd,go_sem,seval]
 refine Zg [3,4,6,10,11,59,60] (fun q:Nat×List (Int×Int)=> [(61,.p (.int .i64 q.1))]) (fun q=> [Ze x,Xd r,.cells [.p (.bool s.rest),.p (.int .i64 s.dep),.p (.list s.times_c (s.times.map eTim)),.p (.int .i64 s.fin),.p (.int .i64 s.miles)],Q1 0 0 0 0,Yc t,Q1 (t.fixed+t.perMile*s.miles+t.perTick*(s.fin-t.opn)) (chgF x r.visits r.typ q.1).1 (chgF x r.visits r.typ q.1).2 ((s.fin-t.opn).tdiv 64*(s.fin-t.opn).tdiv 64),.map (q.2.map eII)])
  (fun q=>q.1<=r.visits.length/\ ∀n,Ka q.2 n=Zh1 r.visits q.1 n) (fun q=>r.visits.length-q.1) (0,[]) ⟨by simp,fun n=>rfl⟩ (Weak.mk ?_) ?_
 ·simp (disch:=omega) only [Ze,Xd,Yc,Q1,chgF,go_sem,seval]
 ·rintro ⟨k,m⟩ ⟨hk,hmg⟩;simp only at hk hmg;have hch:=ZaT (x:=x) (l:=r.visits) (t:=r.typ) k;simp (disch:=omega) only [Ze,Xd,Yc,Q1,go_sem,seval];refine cD ?_ ?_<;>intro h1<;>simp (disch:=omega) only [Sh.out h1,go_sem,seval]
  ·have hk2:k<r.visits.length:=by omega
   obtain ⟨v1,v2⟩:=hv _ (ZC hk2)
   have e3: ¬(nth r.visits k).order<0:=by omega
   have e4: ¬(x.orders.length:Int)<=(nth r.visits k).order:=by omega
   have v3:(nth r.visits k).order.toNat<x.orders.length:=by omega
   have hcs:=ZhI hk2;have hcr:=Zjk hk (nth r.visits k).order;have hfi:=Ze5 (l:=r.visits) (k:=k);have hch2:chgF x r.visits r.typ (k+1)=_:=chgF.eq_2 x r.visits r.typ k;refine Zea hT rfl ?_;rw [hmg];simp (disch:=omega) only [go_sem,seval];refine Zkr hT rfl fun m' hm'=> ?_
   have hmg': ∀n,Ka m' n=Zh1 r.visits (k+1) n:=fun n=>by rw [hm',hcs,hmg];split<;>simp_all
   simp (disch:=omega) only [e3,e4,List.set_cons_succ,List.set_cons_zero,go_sem,seval];refine Zea hT rfl ?_;rw [hm',if_pos rfl];simp (disch:=omega) only [go_sem,seval];refine cD ?_ ?_<;>intro h2<;>simp (disch:=omega) only [Sh.out h2,go_sem,seval]
   ·have h3: ¬Ko r.visits k=true:=by rw [hfi];simp;omega
    rw [if_neg h3] at hch2;exact ⟨(k+1,m'),⟨by simp only;omega,hmg'⟩,by simp only;omega,Weak.mk (by simp (disch:=omega) only [Ze,Xd,Yc,Q1,hch2,go_sem,seval])⟩
   ·have h3:Ko r.visits k=true:=by rw [hfi];simp;omega
    rw [if_pos h3] at hch2;refine (UH (nth x.orders (nth r.visits k).order.toNat).now r.typ).use ?_;simp (disch:=omega) only [go_sem,seval];refine cD ?_ ?_<;>intro h4<;>simp (disch:=omega) only [Sh.out h4,go_sem,seval]
    ·rw [if_pos h4] at hch2;refine (UH (nth x.orders (nth r.visits k).order.toNat).last r.typ).use ?_;simp (disch:=omega) only [go_sem,seval];refine cD ?_ ?_<;>intro h5<;>simp (disch:=omega) only [Sh.out h5,go_sem,seval]
     ·rw [if_pos h5] at hch2;exact ⟨(k+1,m'),⟨by simp only;omega,hmg'⟩,by simp only;omega,Weak.mk (by simp (disch:=omega) only [Ze,Xd,Yc,Q1,hch2,go_sem,seval])⟩
     ·rw [if_neg (by rw [h5];simp)] at hch2;exact ⟨(k+1,m'),⟨by simp only;omega,hmg'⟩,by simp only;omega,Weak.mk (by simp (disch:=omega) only [Ze,Xd,Yc,Q1,hch2,Int.add_zero,go_sem,seval])⟩
    ·rw [if_neg (by rw [h4];simp)] at hch2;refine (UH (nth x.orders (nth r.visits k).order.toNat).last r.typ).use ?_;simp (disch:=omega) only [go_sem,seval];refine cD ?_ ?_<;>intro h5<;>simp (disch:=omega) only [Sh.out h5,go_sem,seval]
     ·rw [if_pos h5] at hch2;exact ⟨(k+1,m'),⟨by simp only;omega,hmg'⟩,by simp only;omega,Weak.mk (by simp (disch:=omega) only [Ze,Xd,Yc,Q1,hch2,Int.add_zero,go_sem,seval])⟩
     ·rw [if_neg (by rw [h5];simp)] at hch2;exact ⟨(k+1,m'),⟨by simp only;omega,hmg'⟩,by simp only;omega,Weak.mk (by simp (disch:=omega) only [Ze,Xd,Yc,Q1,hch2,Int.add_zero,go_sem,seval])⟩
  ·have hkl:k=r.visits.length:=by omega
   subst hkl
   rfl
end Go.Proofs.YthmplgaldjpgiaaGreatDoor.K
set_option linter.unusedVariables false
set_option linter.unusedSimpArgs false
namespace Go.Proofs.YthmplgaldjpgiaaGreatDoor.K
open Go Go.AM Go.Proofs
set_option maxRecDepth 8000
set_option maxHeartbeats 8000000
@[go_sem] theorem ZqJ {f:FuncId} :(PV.fn f).cells= [.fn f]:=Eq.trans rfl rfl
def Zpy : AM.Obj:= .cells [.p (.bool false),.p (.int .i64 0),.p (.list true []),.p (.int .i64 0),.p (.int .i64 0)]
theorem UN (x:Inst) (r:Rte) (hx:InstOk x) (hl:r.visits.length<=1048576) (hrl:r.rests.length<=1048576):ACalls Tryz.prog 61 [.p (ZT x),.p (eRte r)] [] fun y H'=>y=Zdv x r/\H'= []:=by
 have hld:=Je hx;have htl:=hld.typ;have hol:=hld.ord;have chk:=ZlE x r hx hl
 have htb:x.types.length<=6:=by have:=hx.types.1;simp only [rng,decide_eq_true_eq] at this;omega
 refine Zc [] Tryz.func61 rfl ZAc ?_;simp (disch:=omega) only [Tryz.f61,go_sem,seval];refine gF ?_ ?_<;>intro h1<;>simp (disch:=omega) only [Sh.out h1,go_sem,seval]
 ·have e:Wo x r=2:=by rw [Wo,if_pos (by omega)]
  rw [Wc (e:=2) (by rw [ZS,e];rfl) (by omega)];exact we (by simp (disch:=omega) only [zShe,zSco,List.map_nil,go_sem,seval])
 ·refine cD ?_ ?_<;>intro h2<;>simp (disch:=omega) only [Sh.out h2,go_sem,seval]
  ·have e:Wo x r=2:=by rw [Wo,if_pos (by omega)]
   rw [Wc (e:=2) (by rw [ZS,e];rfl) (by omega)];exact we (by simp (disch:=omega) only [zShe,zSco,List.map_nil,go_sem,seval])
  ·have hty:0<=r.typ/\r.typ<(x.types.length:Int):=by omega
   have hti:r.typ.toNat<x.types.length:=by omega
   have hnum:=YP hx hti;have htyp:nth x.types r.typ.toNat=XX x r:=rfl;rw [htyp] at hnum
   have hsk: ∀o∈x.orders,o.skills<9223372036854775808:=fun o hm=>by
    obtain ⟨i,hi,rfl⟩:=List.mem_iff_getElem.1 hm;have:=(hx.orders.2 i hi).skills;rw [Zd hi] at this;omega
   refine Zg [2,3,4,5,25,26] (fun k:Nat=> [(27,.p (.int .i64 k))]) (fun _=> [Ze x,Xd r,Zpy,Q1 0 0 0 0,.elems 1 [.fn 99,.fn 100,.fn 101]])
    (fun k=>k<=3/\(0<k->Xm x r.visits=0)/\(1<k-> ¬(r.visits.any fun v=> !Uw (XX x r) (nth x.orders v.order.toNat).skills)=true)/\(2<k->Zc1 x (XX x r).cap r.visits=true)) (fun k=>3-k) 0 ⟨by omega,by omega,by omega,by omega⟩ (Weak.mk ?_) ?_
   ·simp (disch:=omega) only [Ze,Xd,Q1,Zpy,go_sem,seval]
   ·rintro k ⟨hk,k1,k2,k3⟩;simp (disch:=omega) only [Ze,Xd,Q1,Zpy,go_sem,seval];refine cD ?_ ?_<;>intro h3<;>simp (disch:=omega) only [Sh.out h3,go_sem,seval]
    ·by_cases hk0:k=0
     ·subst hk0;have he:elt [PV.fn 99,PV.fn 100,PV.fn 101] 0=PV.fn 99:=rfl;simp (disch:=first | omega | (simp only [List.length_cons,List.length_nil,List.length_append,List.length_map,List.length_take,List.length_drop]<;>omega)) only [he,go_sem,seval];refine (chk).use ?_;simp (disch:=omega) only [go_sem,seval];refine cD ?_ ?_<;>intro h4<;>simp (disch:=omega) only [Sh.out h4,go_sem,seval]
      ·have e:Wo x r=Xm x r.visits:=by rw [Wo,if_neg (fun h=>h hty),if_pos h4]
       rw [Wc (e:=Xm x r.visits) (by rw [ZS,e,if_neg h4]) h4];exact we (by simp (disch:=omega) only [zShe,zSco,List.map_nil,go_sem,seval])
      ·exact ⟨1,⟨by omega,fun _=>by omega,by omega,by omega⟩,by omega,Weak.mk (by simp (disch:=omega) only [Ze,Xd,Q1,Zpy,go_sem,seval])⟩
     ·have h0:=k1 (by omega);have hsq:=Wg h0
      have hr0:Wo x r=if (r.visits.any fun v=> !Uw (XX x r) (nth x.orders v.order.toNat).skills)=true then 18 else if Zc1 x (XX x r).cap r.visits=false then 17 else if ¬(0<=r.start/\r.start<=4096/\r.rests.length<=r.visits.length+1) then 2 else 0:=by
       rw [Wo,if_neg (fun h=>h hty),if_neg (by omega)]
      by_cases hk1:k=1
      ·subst hk1;have he:elt [PV.fn 99,PV.fn 100,PV.fn 101] 1=PV.fn 100:=rfl;simp (disch:=first | omega | (simp only [List.length_cons,List.length_nil,List.length_append,List.length_map,List.length_take,List.length_drop]<;>omega)) only [he,go_sem,seval];refine (ZjQ x r hty (fun v hv=>by have:=hsq.inr v hv;simp [inB,this.1,this.2]) hl htl (by omega) (by omega) hsk).use ?_;simp (disch:=omega) only [go_sem,seval]
       by_cases h5:(r.visits.any fun v=> !Uw (XX x r) (nth x.orders v.order.toNat).skills)=true
       ·rw [if_pos h5] at hr0 ⊢;rw [Wc (e:=18) (by rw [ZS,hr0];rfl) (by omega)];simp (disch:=omega) only [go_sem,seval];exact we (by simp (disch:=omega) only [zShe,zSco,List.map_nil,go_sem,seval])
       ·rw [if_neg h5];simp (disch:=omega) only [go_sem,seval];exact ⟨2,⟨by omega,fun _=>h0,fun _=>h5,by omega⟩,by omega,Weak.mk (by simp (disch:=omega) only [Ze,Xd,Q1,Zpy,go_sem,seval])⟩
      ·have hk2:k=2:=by omega
       subst hk2;have he:elt [PV.fn 99,PV.fn 100,PV.fn 101] 2=PV.fn 101:=rfl;simp (disch:=first | omega | (simp only [List.length_cons,List.length_nil,List.length_append,List.length_map,List.length_take,List.length_drop]<;>omega)) only [he,go_sem,seval];refine (ZkP x r hx hl hty h0).use ?_;simp (disch:=omega) only [go_sem,seval];rw [if_neg (k2 (by omega))] at hr0
       cases h5:Zc1 x (XX x r).cap r.visits with
       | false =>
        rw [if_pos h5] at hr0;rw [Wc (e:=17) (by rw [ZS,hr0];rfl) (by omega)];simp only [Bool.false_eq_true,if_false];simp (disch:=omega) only [go_sem,seval];exact we (by simp (disch:=omega) only [zShe,zSco,List.map_nil,go_sem,seval])
       | true =>
        simp only [if_true];simp (disch:=omega) only [go_sem,seval];exact ⟨3,⟨by omega,fun _=>h0,fun _=>k2 (by omega),fun _=>by first | exact h5 | trivial⟩,by omega,Weak.mk (by simp (disch:=omega) only [Ze,Xd,Q1,Zpy,go_sem,seval])⟩
    ·have hk3:k=3:=by omega
     subst hk3;have h0:=k1 (by omega);have hsq:=Wg h0
     have hr0:Wo x r=if ¬(0<=r.start/\r.start<=4096/\r.rests.length<=r.visits.length+1) then 2 else 0:=by
      rw [Wo,if_neg (fun h=>h hty),if_neg (by omega),if_neg (k2 (by omega)),if_neg (by rw [k3 (by omega)];simp)]
     have cb:=Zmr x r hx hl hrl hty h0;have hok:=Qz hx hty hsq
     have hbr:Uo x r=X0 x r->(X0 x r).2=0->(0<=r.start/\r.start<=4096/\r.rests.length<=r.visits.length+1)->(0<=(X0 x r).1.fin/\(X0 x r).1.fin<=8192)/\(0<=(X0 x r).1.miles/\(X0 x r).1.miles<=210000):=fun _ hz hs =>
      ZeL hok ⟨hs.1,hs.2.1⟩ (by rw [XH];exact hs.2.2) hz
     by_cases h6:0<=r.start/\r.start<=4096/\r.rests.length<=r.visits.length+1
     ·have e:Wo x r=0:=by rw [hr0,if_neg (fun h=>h h6)]
      have ee:ZS x r=(X0 x r).2:=by rw [ZS,if_pos e]
      have eb:Uo x r=X0 x r:=by rw [Uo,if_pos h6]
      have hbr:=fun hz=>hbr eb hz h6;rw [eb] at cb
      have es:Y9 x r=if (X0 x r).2=0 then (X0 x r).1 else zShe:=by rw [Y9,ee]
      have ep:Xf x r=if (X0 x r).2=0 then ZpB x r (X0 x r).1 else zSco:=by rw [Xf,ee]
      unfold Zdv;rw [ee,es,ep];clear ee es ep eb
      generalize X0 x r=q at *
      obtain ⟨sh,eb⟩:=q;simp only at cb hbr ⊢;refine Y7 cb ?_;simp (disch:=omega) only [go_sem,seval];refine cD ?_ ?_<;>intro h7<;>simp (disch:=omega) only [Sh.out h7,go_sem,seval]
      ·exact we (by simp (disch:=omega) only [zShe,zSco,List.map_nil,go_sem,seval])
      ·have h7':eb=0:=by omega
       try rw [if_pos h7',if_pos h7']
       subst h7';obtain ⟨g1,g2⟩:=hbr rfl;refine Zq 5 mixed (by kernel_rfl) (by kernel_rfl) ?_;simp (disch:=omega) only [go_sem,seval];refine Zk (Zj2 x r sh hty (by omega) htl hl hsq.inr hnum.2.2.2.1 (by omega) (by omega) (by omega)) ?_;simp (disch:=omega) only [go_sem,seval];exact we
     ·have e:Wo x r=2:=by rw [hr0,if_pos h6]
      have eb:Uo x r=(zShe,2):=by rw [Uo,if_neg h6]
      rw [Wc (e:=2) (by rw [ZS,e];rfl) (by omega)];rw [eb] at cb;refine Y7 cb ?_;simp (disch:=omega) only [go_sem,seval];exact we (by simp (disch:=omega) only [zShe,zSco,List.map_nil,go_sem,seval])
theorem ZjI (x:Inst) (r:Rte) (hx:InstOk x) (hl:r.visits.length<=1048576) (hrl:r.rests.length<=1048576):PC 23 [.p (ZT x),.p (eRte r)] (.int .i64 (ZS x r)):=by
 have ce:=UN x r hx hl hrl;refine Za Tryz.func23 rfl ZAG ?_;simp (disch:=omega) only [Tryz.f23,go_sem,seval];unfold Zdv at ce;refine Zj8 ce ?_;simp (disch:=omega) only [go_sem,seval]
theorem Yf {x:Inst} {r:Rte} (h:ZS x r=0):Wo x r=0:=by
 unfold ZS at h
 split at h
 ·assumption
 ·rename_i c;exact absurd h c
theorem YA {x:Inst} {r:Rte} (h:Wo x r=0):(0<=r.typ/\r.typ<(x.types.length:Int))/\Xm x r.visits=0/\(0<=r.start/\r.start<=4096/\r.rests.length<=r.visits.length+1):=by
 unfold Wo at h
 split at h
 ·simp at h
 ·rename_i c1
  split at h
  ·rename_i c2;exact absurd h c2
  ·rename_i c2
   split at h
   ·simp at h
   ·split at h
    ·simp at h
    ·split at h
     ·simp at h
     ·rename_i c5;exact ⟨by omega,by omega,Classical.not_not.1 c5⟩
theorem Zek {x:Inst} {r:Rte} (hx:InstOk x) (h:ZS x r=0):(0<=(Y9 x r).fin/\(Y9 x r).fin<=8192)/\(0<=(Y9 x r).miles/\(Y9 x r).miles<=210000):=by
 obtain ⟨hty,h0,hs⟩:=YA (Yf h)
 have e:Y9 x r=(X0 x r).1:=by rw [Y9,if_pos h]
 have ee:(X0 x r).2=0:=by rw [ZS,if_pos (Yf h)] at h;exact h
 rw [e];exact ZeL (Qz hx hty (Wg h0)) ⟨hs.1,hs.2.1⟩ (by rw [XH];exact hs.2.2) ee
theorem Q8 {x:Inst} {r:Rte} (hx:InstOk x) (hl:r.visits.length<=1048576) (h:ZS x r=0):Qc 1073741824 (Xf x r):=by
 have hg:=Zek hx h;obtain ⟨hty,_,_⟩:=YA (Yf h);have hnum:=YP hx (show r.typ.toNat<x.types.length by omega);have htyp:nth x.types r.typ.toNat=XX x r:=rfl;rw [htyp] at hnum
 have e:(X0 x r).1=Y9 x r:=by rw [Y9,if_pos h]
 have hch:=ZaT (x:=x) (l:=r.visits) (t:=r.typ) r.visits.length;rw [Xf,if_pos h,e];unfold ZpB Qc
 generalize Y9 x r=s at *
 generalize XX x r=t at *
 have p1:0<=t.perMile*s.miles/\t.perMile*s.miles<=100*210000:=⟨Int.mul_nonneg (by omega) (by omega),Int.mul_le_mul (by omega) (by omega) (by omega) (by omega)⟩
 have hW: -8192<=s.fin-t.opn/\s.fin-t.opn<=8192:=by omega
 have p2: -819200<=t.perTick*(s.fin-t.opn)/\t.perTick*(s.fin-t.opn)<=819200:=by
  generalize s.fin-t.opn=w at hW;have a1:=Int.mul_le_mul_of_nonneg_left hW.2 (show 0<=t.perTick by omega);have a2:=Int.mul_le_mul_of_nonneg_left hW.1 (show 0<=t.perTick by omega);omega
 have p3: -128<=(s.fin-t.opn).tdiv 64/\(s.fin-t.opn).tdiv 64<=128:=by
  generalize s.fin-t.opn=w at hW;rcases Int.le_total 0 w with h | h
  ·rw [Int.tdiv_eq_ediv_of_nonneg h];omega
  ·have:w.tdiv 64= -((-w) / 64):=by rw [<- Int.tdiv_eq_ediv_of_nonneg (by omega),Int.neg_tdiv,Int.neg_neg]
   rw [this];omega
 have p4:0<=(s.fin-t.opn).tdiv 64*(s.fin-t.opn).tdiv 64/\(s.fin-t.opn).tdiv 64*(s.fin-t.opn).tdiv 64<=16384:=by
  generalize (s.fin-t.opn).tdiv 64=q at p3;refine ⟨?_,?_⟩
  ·rcases Int.le_total 0 q with h | h
   ·exact Int.mul_nonneg h h
   ·exact Int.mul_nonneg_of_nonpos_of_nonpos h h
  ·rcases Int.le_total 0 q with h | h
   ·have:=Int.mul_le_mul p3.2 p3.2 h (by omega);omega
   ·have h2:0<= -q:=by omega
    have:=Int.mul_le_mul (show-q<=128 by omega) (show-q<=128 by omega) h2 (by omega);rw [Int.neg_mul_neg] at this;omega
 simp only;omega
def Va (x:Inst) (r:Rte):Int×Int:=if ZS x r=0 then Xs (Xf x r) else (0,ZS x r)
theorem Zja (s:Sco):0<=(Xs s).1/\(Xs s).1<=36028797018963968:=by
 unfold Xs
 split
 ·simp
 ·split
  ·simp
  ·simp only;omega
theorem ZeT (x:Inst) (r:Rte):0<=(Va x r).1/\(Va x r).1<=36028797018963968:=by
 unfold Va
 split
 ·exact Zja _
 ·simp
theorem ZhR (x:Inst) (r:Rte) (hx:InstOk x) (hb:Zdq r):PT 143 [.p (ZT x),.p (eRte r)] [.p (.int .i64 (Va x r).1),.p (.int .i64 (Va x r).2)]:=by
 have ce:=UN x r hx hb.1 hb.2;refine Zc [] Tryz.func143 rfl Zu5 ?_;simp (disch:=omega) only [Tryz.f143,go_sem,seval];unfold Zdv at ce;refine Zj8 ce ?_;simp (disch:=omega) only [go_sem,seval];refine cD ?_ ?_<;>intro h1<;>simp (disch:=omega) only [Sh.out h1,go_sem,seval]
 ·rw [Va,if_neg h1];exact we
 ·have h0:ZS x r=0:=by omega
  rw [Va,if_pos h0];refine ZcP (JI (Xf x r) (Xx (by omega) (Q8 hx hb.1 h0))) ?_;simp (disch:=omega) only [go_sem,seval];exact we
theorem Zjo {x:Inst} {t:Typ} {p:Int} {stop:Stp} {out:List Sr} {a b:Sr} (h:b∈out):b∈Ku x t p stop out a:=by
 unfold Ku
 split
 ·exact h
 ·split
  ·exact h
  ·exact XZ.2 (.inl h)
theorem ZdP {x:Inst} {t:Typ} {p:Int} {stop:Stp} : ∀(st:List Sr) (out:List Sr) (b:Sr),(b∈out->b∈st.foldl (Ku x t p stop) out)/\ ∀a∈st,(∀o,b∈Ku x t p stop o a)->b∈st.foldl (Ku x t p stop) out
 | [],out,b=>⟨id,fun a h=>by simp at h⟩
 | c::st,out,b=>by
  rw [List.foldl_cons];obtain ⟨g1,g2⟩:=ZdP st (Ku x t p stop out c) b;refine ⟨fun h=>g1 (Zjo h),fun a ha hb=> ?_⟩;rcases List.mem_cons.1 ha with rfl | ha
  ·exact g1 (hb _)
  ·exact g2 a ha hb
inductive Rch (x:Inst) (t:Typ) (sp:List Stp):Nat->Lab->Prop where
 | zero:Rch x t sp 0 (labF t 0)
 | succ {k:Nat} {L:Lab} (b:Bool) (h:Rch x t sp k L) (hk:k<sp.length) (e:(nxtF x t sp k L b).2=0):Rch x t sp (k+1) (nxtF x t sp k L b).1
theorem Zh4 {x:Inst} {t:Typ} {sp:List Stp} : ∀(bs:List Bool) (k:Nat) (L:Lab),Rch x t sp k L->k+bs.length=sp.length+1->(YD x t sp k L bs).2=0-> ∀j,k<=j->j<=sp.length-> ∃L',Rch x t sp j L'
 | [],k,L,h,hl,_,j,h1,h2=>by simp at hl;omega
 | b::bs,k,L,h,hl,hr,j,h1,h2=>by
  by_cases e:k=j
  ·subst e;exact ⟨L,h⟩
  ·rw [YD] at hr
   split at hr
   ·rename_i he;exact Zh4 bs (k+1) _ (.succ b h (by omega) he) (by simp at hl;omega) hr j (by omega) h2
   ·rename_i he;exact absurd hr he
def Zvl (x:Inst) (t:Typ) (l:List Vis) (s:Int×List Sr):Prop:=s.1=ZfR t (ZU x l) l.length/\ ∀r L,Rch x t (ZU x (l++r)) l.length L-> ∀b,(⟨XK t L b,QT L b⟩:Sr)∈s.2
def goS (x:Inst) (t:Typ) (s:Int×List Sr) (v:Vis):Int×List Sr:=((Xp x v).place,KD x t s.1 s.2 (Xp x v))
def st0 (t:Typ):Int×List Sr:=(t.src,YU t [] t.opn 0)
theorem ZjS {x:Inst} {t:Typ} (h:0<=t.opn):Zvl x t [] (st0 t):=by
 refine ⟨rfl,fun r L hL b=> ?_⟩
 have:L=labF t 0:=by
  generalize hk:([]:List Vis).length=k at hL
  cases hL with
  | zero=>rfl
  | succ=>simp at hk
 subst this
 have hm:max t.opn 0=t.opn:=by omega
 cases b
 ·exact XZ.2 (.inr (.inl (by simp [XK,QT,labF,hm])))
 ·exact XZ.2 (.inr (.inr (by simp [XK,QT,labF,hm])))
theorem Zbz {x:Inst} {l r:List Vis} {v:Vis} :nth (ZU x (l++(v::r))) l.length=Xp x v:=by
 rw [Zd (by simp [ZU])];simp [ZU]
theorem Zjb {x:Inst} {t:Typ} {l r:List Vis} :ZfR t (ZU x (l++r)) l.length=ZfR t (ZU x l) l.length:=by
 unfold ZfR
 split
 ·rfl
 ·rename_i h
  have h1:l.length-1<(ZU x (l++r)).length:=by simp [ZU];omega
  have h2:l.length-1<(ZU x l).length:=by simp [ZU];omega
  rw [Zd h1,Zd h2];simp only [ZU,List.map_append];rw [List.getElem_append_left]
theorem ZkD {x:Inst} {t:Typ} {l:List Vis} {s:Int×List Sr} {v:Vis} (h:Zvl x t l s):Zvl x t (l++ [v]) (goS x t s v):=by
 obtain ⟨h1,h2⟩:=h;refine ⟨?_,fun r L' hL b=> ?_⟩
 ·have e:=Zbz (x:=x) (l:=l) (r:= []) (v:=v);rw [ZfR,if_neg (by simp),show (l++ [v]).length-1=l.length by simp,e];rfl
 ·rw [List.append_assoc,List.cons_append,List.nil_append] at hL;generalize hsp:ZU x (l++(v::r))=sp at hL
  have hlen:l.length<sp.length:=by rw [<- hsp];simp [ZU]
  have hat:nth sp l.length=Xp x v:=by rw [<- hsp];exact Zbz
  have hpl:ZfR t sp l.length=s.1:=by rw [h1,<- hsp];exact Zjb
  generalize hk:(l++ [v]).length=k at hL
  cases hL with
  | zero=>simp at hk
  | succ b' hp hk' he =>
   rename_i k L
   have hkl:k=l.length:=by simp at hk;omega
   subst hkl;have hmem:=h2 (v::r) L (by rw [hsp];exact hp) b'
   generalize hd:XK t L b'=d at *
   generalize hs:QT L b'=w at *
   have hg:goL x t sp l.length d=goN x.net t.prof s.1 (Xp x v).place d:=by
    rw [goL,hpl,toF,if_neg (by omega),hat]
   unfold nxtF at he ⊢;rw [hd,hs,hg] at he ⊢
   generalize hgn:goN x.net t.prof s.1 (Xp x v).place d=g at *
   unfold Qg at he ⊢
   split at he
   ·simp at he
   ·rename_i c1;rw [if_neg c1];rw [if_neg (by omega)] at he ⊢;rw [hat] at he ⊢
    split at he
    ·simp at he
    ·rename_i c2;rw [if_neg c2]
     split at he
     ·simp at he
     ·rename_i c3;rw [if_neg c3];refine (ZdP s.2 [] _).2 ⟨d,w⟩ hmem fun o=> ?_;have c4: ¬(¬g.2.2=0\/t.drive<w+g.1-d):=fun hh=>hh.elim (fun e=>c1 e) (fun e=>c3 e);simp only [Ku,hgn];rw [if_neg c4,if_neg c2]
      cases b
      ·exact XZ.2 (.inr (.inl rfl))
      ·exact XZ.2 (.inr (.inr rfl))
theorem Ziw {x:Inst} {k:Int} {l:List Vis} {s:Int×List Sr} (h:Zvl x (nth x.types k.toNat) l s) (he:s.2= []) (r:List Vis) (c d:Bool): ¬(Va x ⟨k,0,c,[],d,l++r⟩).2=0:=fun hp=>by
 have h1:ZS x ⟨k,0,c,[],d,l++r⟩=0:=by
  unfold Va at hp
  split at hp
  ·assumption
  ·exact hp
 have h2:(X0 x ⟨k,0,c,[],d,l++r⟩).2=0:=by
  unfold ZS at h1
  split at h1
  ·exact h1
  ·rename_i h3;exact absurd h1 h3
 obtain ⟨bs,hl,hrun,_⟩:=ZbO (by simp) h2;obtain ⟨L,hL⟩:=Zh4 bs 0 _ .zero (by omega) hrun l.length (by omega) (by simp [ZU]);have:=h.2 r L hL false;rw [he] at this;simp at this
def rtV (k:Int) (l:List Vis):Rte:=⟨k,0,true,[],false,l⟩
def okV (x:Inst) (k:Int) (l:List Vis):Bool:=decide ((Va x (rtV k l)).2=0)
def okR (x:Inst) (k:Int) (S:Nat) (l:List Vis):Bool:=decide ((ZfO l).1=(S:Int))&&(decide (ZS x (rtV k l)=0)&&okV x k l)
def UP (x:Inst) (k:Int) (S:Nat) (l:List Vis):Col:=⟨k,S,(Va x (rtV k l)).1,rtV k l⟩
def J5 (a b:Col):Bool:=if a.price≠b.price then decide (a.price<b.price) else decide (Zk9 a.route.visits b.route.visits<0)
def nxV (x:Inst) (S:Nat) (l:List Vis):List Vis:=nextU x S l x.orders.length
def UZ (x:Inst) (S:Nat):Nat:=ZaY x S x.orders.length
def lvP (x:Inst) (k:Int) (S f:Nat) (l:List Vis) (s:Int×List Sr):List (List Vis):=lvW (nxV x S) (goS x (nth x.types k.toNat)) (fun s=>s.2.isEmpty) f l s
def ZfA (x:Inst) (k:Int) (S:Nat) (z:Col×Bool):Col×Bool:=(lvP x k S (UZ x S) [] (st0 (nth x.types k.toNat))).foldl (WW (okV x k) (UP x k S) J5) z
def Zx1 (x:Inst) (k:Int) (S:Nat) (z:Col×Bool):Col×Bool:=(lvR (nxV x S) (UZ x S) []).foldl (WW (okR x k S) (UP x k S) J5) z
theorem Zbe {ok ok':List Vis->Bool} {col:List Vis->Col} {better:Col->Col->Bool} : ∀ {L:List (List Vis)} {b:Col×Bool},(∀l∈L,ok l=ok' l)->L.foldl (WW ok col better) b=L.foldl (WW ok' col better) b
 | [],_,_=>rfl
 | l::L,b,h=>by
  rw [List.foldl_cons,List.foldl_cons,WW,WW,h l (by simp)];exact Zbe fun m hm=>h m (List.mem_cons_of_mem _ hm)
theorem Zlm {x:Inst} {S:Nat} (hN: ∀l,Gr x S l->l.length<UZ x S->nxV x S l≠ []): ∀(f:Nat) (l m:List Vis),Gr x S l->l.length+f=UZ x S->m∈lvR (nxV x S) f l->Gr x S m/\m.length=UZ x S
 | 0,l,m,h,ht,hm=>by
  simp only [lvR,List.mem_cons,List.not_mem_nil,or_false] at hm;subst hm;exact ⟨h,ht⟩
 | f+1,l,m,h,ht,hm=>by
  rw [lvR,if_neg (hN l h (by omega))] at hm;obtain ⟨v,hv,hm⟩:=List.mem_flatMap.1 hm;exact Zlm hN f _ m (.snoc h hv) (by simp;omega) hm
theorem XD {x:Inst} {r:Rte} (h:ZS x r=0):RightV x r.visits:=by
 rw [<- ZgZ]
 have h1:Wo x r=0:=by
  unfold ZS at h
  split at h
  ·assumption
  ·exact h
 unfold Wo at h1
 split at h1
 ·cases h1
 ·split at h1
  ·rename_i h2;exact absurd h1 h2
  ·rename_i h2;exact Classical.not_not.1 h2
theorem YK {x:Inst} {k:Int} {l:List Vis} (h:okV x k l=true):ZS x (rtV k l)=0:=by
 have h:=of_decide_eq_true h;unfold Va at h
 split at h
 ·assumption
 ·exact h
theorem ZiB {x:Inst} (hx:InstOk x) {S:Nat} (ha:Alw x S) (l:List Vis) (h:Gr x S l) (hl:l.length<UZ x S):nxV x S l≠ []:=fun e=>by
 have hf:=Z4 hx
 have hn:x.orders.length<=60:=by have:=hf.len;omega
 have:=(h.next_nil ha hn hf.val).1 e;unfold UZ at hl;omega
theorem ZlI {x:Inst} (hx:InstOk x) {k:Int} {S:Nat} (h0:S≠0) (hS:S / pw x.orders.length=0) (ha:Alw x S) (ht:0<=(nth x.types k.toNat).opn) (z:Col×Bool):ZfA x k S z=Zx1 x k S z:=by
 have hN:=ZiB hx ha
 have h1:Zx1 x k S z=(lvR (nxV x S) (UZ x S) []).foldl (WW (okV x k) (UP x k S) J5) z:=Zbe fun l hl=>by
  obtain ⟨hg,hlen⟩:=Zlm hN _ _ _ .nil (by simp) hl;obtain ⟨hr,ho⟩:=hg.right (Z4 hx) ha h0 hS hlen;unfold okR
  cases hv:okV x k l with
  | false=>simp
  | true =>
   rw [YK hv,hr.ord (Z4 hx),ho];simp
 rw [h1,ZfA,lvP,Wq,Wq (lvR _ _ _)]
 rw [<- Zsw (nx:=nxV x S) (go:=goS x (nth x.types k.toNat)) (emp:=fun s=>s.2.isEmpty) (ok:=okV x k) (G:=Gr x S) (R:=Zvl x (nth x.types k.toNat)) (tot:=UZ x S) (fun l v hl hv=> .snoc hl hv) (fun l s v _ hs _=>ZkD hs)
  (fun l s _ hs he r=>decide_eq_false (Ziw hs (List.isEmpty_iff.1 he) r true false)) hN (UZ x S) [] (st0 (nth x.types k.toNat)) .nil (ZjS ht) (by simp)]
def Z5 (rs:List Rte) (i:Nat):Int:=(rs.countP fun r=>hasO r.visits (i:Int):Nat)
def X4 (us:List Int) (i:Nat):Int:=(us.countP fun u=>decide (u=(i:Int)):Nat)
def WZ (rs:List Rte) (i:Nat):Int:=(rs.countP fun r=>decide (r.typ=(i:Int)):Nat)
theorem Zbq {rs:List Rte} {k:Nat} (h:k<rs.length) (i:Nat):Z5 (rs.take (k+1)) i=if hasO (nth rs k).visits (i:Int)=true then Z5 (rs.take k) i+1 else Z5 (rs.take k) i:=by
 unfold Z5;rw [List.take_succ_eq_append_getElem h,List.countP_append,Zd h]
 by_cases c:hasO rs[k].visits (i:Int)=true<;>simp [c]
theorem ZbL {us:List Int} {k:Nat} (h:k<us.length) (i:Nat):X4 (us.take (k+1)) i=if nth us k=(i:Int) then X4 (us.take k) i+1 else X4 (us.take k) i:=by
 unfold X4;rw [List.take_succ_eq_append_getElem h,List.countP_append,Zd h]
 by_cases c:us[k]=(i:Int)<;>simp [c]
theorem ZhE {rs:List Rte} {k:Nat} (h:k<rs.length) (i:Nat):WZ (rs.take (k+1)) i=if (nth rs k).typ=(i:Int) then WZ (rs.take k) i+1 else WZ (rs.take k) i:=by
 unfold WZ;rw [List.take_succ_eq_append_getElem h,List.countP_append,Zd h]
 by_cases c:rs[k].typ=(i:Int)<;>simp [c]
theorem ZaR {rs:List Rte} {k:Nat} (i:Nat):0<=Z5 (rs.take k) i/\Z5 (rs.take k) i<=rs.length:=by
 have:=List.countP_le_length (p:=fun r:Rte=>hasO r.visits (i:Int)) (l:=rs.take k);rw [List.length_take] at this;unfold Z5;omega
theorem KY {us:List Int} {k:Nat} (i:Nat):0<=X4 (us.take k) i/\X4 (us.take k) i<=us.length:=by
 have:=List.countP_le_length (p:=fun u:Int=>decide (u=(i:Int))) (l:=us.take k);rw [List.length_take] at this;unfold X4;omega
theorem Zjl {rs:List Rte} {k:Nat} (i:Nat):0<=WZ (rs.take k) i/\WZ (rs.take k) i<=rs.length:=by
 have:=List.countP_le_length (p:=fun r:Rte=>decide (r.typ=(i:Int))) (l:=rs.take k);rw [List.length_take] at this;unfold WZ;omega
def Xg (f:Nat->Int) (n:Nat):List Int:=(List.range n).map f
theorem Qs {f n} :(Xg f n).length=n:=by simp [Xg]
theorem YJ {f n j} (h:j<n):nth (Xg f n) j=f j:=WL h
theorem V8 {f n j v} :(Xg f n).set j v=Xg (fun i=>if i=j then v else f i) n:=by
 apply List.ext_getElem (by simp [Xg]);intro i h1 h2;rw [List.getElem_set];simp [Xg]
 by_cases c:j=i
 ·subst c;simp
 ·rw [if_neg c,if_neg (fun e=>c e.symm)]
theorem YX {f g:Nat->Int} {n:Nat} (h: ∀i,i<n->f i=g i):Xg f n=Xg g n:=List.map_congr_left fun i hi=>h i (List.mem_range.1 hi)
theorem Zix {x:Inst} {l:List Vis} (hi:Inr x l) (i:Nat) (h:i<=62):(((XA l:Nat):Int).fdiv (2^i))%2=if hasO l (i:Int)=true then 1 else 0:=by
 have h1:sHas ((XA l:Nat):Int) (i:Int)=hasO l (i:Int):=by
  rw [XB _ _ h,Bool.eq_iff_iff,WV,ZV]
  constructor
  ·rintro ⟨v,hv,e⟩;exact ⟨v,hv,by have:=hi v hv;omega⟩
  ·rintro ⟨v,hv,e⟩;exact ⟨v,hv,by omega⟩
 rw [<- h1];unfold sHas
 have h0:(0:Int)<=(i:Int):=by omega
 have h2:(i:Int)<=62:=by omega
 simp only [h0,h2,decide_true,Bool.true_and,Int.toNat_natCast,decide_eq_true_eq]
 split
 ·assumption
 ·omega
theorem ZbA (x:Inst) (p:Pln) (htl:x.types.length<=1048576) (hr:p.routes.length<=1048576) (hty: ∀r∈p.routes,0<=r.typ/\r.typ<(x.types.length:Int)) :
  PC 27 [.p (ZT x),.p (JB p)] (.bool ((List.range x.types.length).any fun t=>decide ((nth x.types t).count<WZ p.routes t))):=by
 refine Za Tryz.func27 rfl ZAT ?_;simp (disch:=omega) only [Tryz.f27,go_sem,seval]
 have hz:List.replicate x.types.length (PV.int .i64 0)=(Xg (WZ (p.routes.take 0)) x.types.length).map eI:=by
  rw [YX (g:=fun _=>0) (fun i _=>by simp [WZ]),Xg,List.map_map];rw [show (eI∘fun _:Nat=>(0:Int))=fun _=>PV.int .i64 0 from rfl,List.map_const',List.length_range]
 have hrl: ∀f,(Xg f x.types.length).length=x.types.length:=fun f=>Qs;refine Zg [2,5,15,16] (fun k:Nat=> [(17,.p (.int .i64 k))]) (fun k=> [Ze x,Xb p,.elems 1 ((Xg (WZ (p.routes.take k)) x.types.length).map eI)]) (fun k=>k<=p.routes.length) (fun k=>p.routes.length-k) 0 (by simp) (Weak.mk ?_) ?_
 ·simp (disch:=omega) only [Ze,Xb,hz,go_sem,seval]
 ·intro k hk;simp (disch:=omega) only [Ze,Xb,go_sem,seval];refine cD ?_ ?_<;>intro h1<;>simp (disch:=omega) only [Sh.out h1,go_sem,seval]
  ·have hk2:k<p.routes.length:=by omega
   obtain ⟨t1,t2⟩:=hty _ (Zn hk2)
   have hti:(nth p.routes k).typ.toNat<x.types.length:=by omega
   have hsu:=ZhE hk2;have hrg:=Zjl (rs:=p.routes) (k:=k)
   have hnx:(Xg (WZ (p.routes.take k)) x.types.length).set (nth p.routes k).typ.toNat (WZ (p.routes.take k) (nth p.routes k).typ.toNat+1)=Xg (WZ (p.routes.take (k+1))) x.types.length:=by
    rw [V8];refine YX fun i _=> ?_;rw [hsu i]
    by_cases c:i=(nth p.routes k).typ.toNat
    ·rw [if_pos c,if_pos (by omega),c]
    ·rw [if_neg c,if_neg (by omega)]
   have hrr:=hrl (WZ (p.routes.take k));have hg:=hrg (nth p.routes k).typ.toNat;have hnt:nth (Xg (WZ (p.routes.take k)) x.types.length) (nth p.routes k).typ.toNat=WZ (p.routes.take k) (nth p.routes k).typ.toNat:=YJ hti
   have he:elt ((Xg (WZ (p.routes.take k)) x.types.length).map eI) (nth p.routes k).typ.toNat= .int .i64 (WZ (p.routes.take k) (nth p.routes k).typ.toNat):=by rw [Z2 (by omega),hnt];rfl
   generalize WZ (p.routes.take k) (nth p.routes k).typ.toNat=c at *
   generalize Xg (WZ (p.routes.take k)) x.types.length=R at *
   have Zx:(R.map eI).set (nth p.routes k).typ.toNat (.int .i64 (c+1))=(Xg (WZ (p.routes.take (k+1))) x.types.length).map eI:=by rw [<- hnx,List.map_set];rfl
   simp (disch:=first | omega | (simp only [List.length_cons,List.length_nil,List.length_append,List.length_map,List.length_take,List.length_drop]<;>omega)) only [he,hrr,hti,eq_self,true_and,if_true,go_sem,seval];exact ⟨k+1,by omega,by omega,Weak.mk (by simp (disch:=omega) only [Ze,Xb,Zx,go_sem,seval])⟩
  ·have hkl:k=p.routes.length:=by omega
   subst hkl;rw [List.take_length];have hrr:=hrl (WZ p.routes);have hnt: ∀j,j<x.types.length->nth (Xg (WZ p.routes) x.types.length) j=WZ p.routes j:=fun j hj=>YJ hj
   generalize Xg (WZ p.routes) x.types.length=R at *
   simp (disch:=first | omega | (simp only [List.length_cons,List.length_nil,List.length_append,List.length_map,List.length_take,List.length_drop]<;>omega)) only [hrr,eq_self,true_and,if_true,go_sem,seval];refine Zg [2,29,30] (fun k:Nat=> [(31,.p (.int .i64 k))]) (fun _=> [Ze x,Xb p,.elems 1 (R.map eI)]) (fun k=>k<=x.types.length/\ ∀j,j<k->decide ((nth x.types j).count<WZ p.routes j)=false) (fun k=>x.types.length-k) 0 (by simp) (Weak.mk ?_) ?_
   ·simp (disch:=omega) only [Ze,Xb,hrr,go_sem,seval]
   ·rintro k ⟨hk,hno⟩;simp (disch:=omega) only [Ze,Xb,go_sem,seval];refine cD ?_ ?_<;>intro h2<;>simp (disch:=omega) only [Sh.out h2,go_sem,seval]
    ·have hk2:k<x.types.length:=by omega
     have he:elt (R.map eI) k= .int .i64 (WZ p.routes k):=by rw [Z2 (by omega),hnt k hk2];rfl
     simp (disch:=first | omega | (simp only [List.length_cons,List.length_nil,List.length_append,List.length_map,List.length_take,List.length_drop]<;>omega)) only [he,hrr,hk2,eq_self,true_and,if_true,go_sem,seval];refine cD ?_ ?_<;>intro h3<;>simp (disch:=omega) only [Sh.out h3,go_sem,seval]
     ·have:((List.range x.types.length).any fun t=>decide ((nth x.types t).count<WZ p.routes t))=true:=List.any_eq_true.2 ⟨k,List.mem_range.2 hk2,by simpa using h3⟩;rw [this]
     ·exact ⟨k+1,⟨by omega,Zl.2 ⟨hno,by simpa using h3⟩⟩,by omega,Weak.mk (by simp (disch:=omega) only [Ze,Xb,hrr,go_sem,seval])⟩
    ·have:((List.range x.types.length).any fun t=>decide ((nth x.types t).count<WZ p.routes t))=false:=by
      rw [List.any_eq_false];intro j hj;rw [hno j (by have:=List.mem_range.1 hj;omega)];simp
     rw [this]
def JX (x:Inst) (us:List Int):Bool:=us.all fun u=>decide (0<=u)&&decide (u<(x.orders.length:Int))
theorem ZeP {x:Inst} {l:List Vis} (hi:Inr x l) (i:Nat) (h:i<=62):IntKind.i64.wrap ((BitVec.ofInt 64 ((XA l / pw i:Nat):Int)&&&1#64).toNat:Int)=if hasO l (i:Int)=true then 1 else 0:=by
 have h1:=Zii ((XA l / pw i:Nat):Int);rw [show BitVec.ofInt 64 1=1#64 from rfl] at h1;rw [h1]
 have h2:(XA l).testBit i=hasO l (i:Int):=by
  rw [Bool.eq_iff_iff,WV,ZV]
  constructor
  ·rintro ⟨v,hv,e⟩;exact ⟨v,hv,by have:=hi v hv;omega⟩
  ·rintro ⟨v,hv,e⟩;exact ⟨v,hv,by omega⟩
 rw [<- h2,Nat.testBit_eq_decide_div_mod_eq];unfold pw;have h3:XA l / 2^i%2<2:=Nat.mod_lt _ (by omega)
 by_cases c:XA l / 2^i%2=1
 ·rw [if_pos (by simpa using c)];omega
 ·rw [if_neg (by simpa using c)];omega
def Zpq (x:Inst) (p:Pln) (c:Bool) (A B:List Int):List AM.Obj:= [Ze x,Xb p,.elems 1 ((if c=true then A else B).map eI),.elems 1 ((if c=true then B else A).map eI)]
theorem ZdF (x:Inst) (p:Pln) (hn:x.orders.length<=10) (hr:p.routes.length<=1048576) (hu:p.unserved.length<=1048576) (hv: ∀r∈p.routes,Inr x r.visits/\r.visits.length<=1048576) :
  ACalls Tryz.prog 24 [.p (ZT x),.p (JB p)] [] fun y H'=>y=(if JX x p.unserved=true then .tup [.p (.list false ((Xg (Z5 p.routes) x.orders.length).map eI)),.p (.list false ((Xg (X4 p.unserved) x.orders.length).map eI)),.p (.bool true)] else .tup [.p (.list true []),.p (.list true []),.p (.bool false)])/\H'= []:=by
 refine Zc [1,19] Tryz.func24 rfl ZBl ?_;simp (disch:=omega) only [Tryz.f24,go_sem,seval]
 have hz:List.replicate x.orders.length (PV.int .i64 0)=(Xg (fun _=>0) x.orders.length).map eI:=by
  rw [Xg,List.map_map];rw [show (eI∘fun _:Nat=>(0:Int))=fun _=>PV.int .i64 0 from rfl,List.map_const',List.length_range]
 have hrl: ∀f,(Xg f x.orders.length).length=x.orders.length:=fun f=>Qs;refine Zo [2,3] (fun c:Bool=> [(4,.sl (if c=true then 2 else 3) 0 x.orders.length x.orders.length),(5,.sl (if c=true then 3 else 2) 0 x.orders.length x.orders.length),(6,.p (.bool false))]) (fun c=>Zpq x p c (Xg (fun _=>0) x.orders.length) (Xg (fun _=>0) x.orders.length)) (fun _=>True) ?_ ?_
 ·simp (disch:=omega) only [go_sem,seval];refine Xo [3,7,8] 9 mixed (by kernel_rfl) (by kernel_rfl) (by kernel_rfl) (by simp) ?_;simp (disch:=omega) only [go_sem,seval];refine VP 3 7 _ _ _ _ (by kernel_rfl) (by simp (disch:=omega) only [go_sem,seval];exact ⟨rfl,rfl⟩) (by simp (disch:=omega) only [go_sem,seval];exact ⟨rfl,rfl⟩) ?_ ?_
  ·refine VP 7 8 _ _ _ _ (by kernel_rfl) (by simp (disch:=omega) only [go_sem,seval];exact ⟨rfl,rfl⟩) (by simp (disch:=omega) only [go_sem,seval];exact ⟨rfl,rfl⟩) ?_ ?_
   ·refine ZG 8 _ _ (by kernel_rfl) (by simp (disch:=omega) only [go_sem,seval];exact ⟨rfl,rfl⟩) (XV ?_);simp (disch:=omega) only [go_sem,seval];exact ⟨true,Weak.mk (by simp (disch:=omega) only [Zpq,Ze,Xb,hz,go_sem,seval])⟩
   ·refine ZG 7 _ _ (by kernel_rfl) (by simp (disch:=omega) only [go_sem,seval];exact ⟨rfl,rfl⟩) (XV ?_);simp (disch:=omega) only [go_sem,seval];exact ⟨true,Weak.mk (by simp (disch:=omega) only [Zpq,Ze,Xb,hz,go_sem,seval])⟩
  ·refine ZG 3 _ _ (by kernel_rfl) (by simp (disch:=omega) only [go_sem,seval];exact ⟨rfl,rfl⟩) (ZG 8 _ _ (by kernel_rfl) (by simp (disch:=omega) only [go_sem,seval];exact ⟨rfl,rfl⟩) (XV ?_));simp (disch:=omega) only [go_sem,seval];exact ⟨false,Weak.mk (by simp (disch:=omega) only [Zpq,Ze,Xb,hz,Bool.false_eq_true,go_sem,seval])⟩
 ·intro c _;have hb: ∀k,k<p.routes.length->ZfO (nth p.routes k).visits=(((XA (nth p.routes k).visits:Nat):Int),0):=fun k hk=>Zhd (hv _ (Zn hk)).1 hn
  have hz2:Xg (fun _=>0) x.orders.length=Xg (Z5 (p.routes.take 0)) x.orders.length:=YX fun i _=>by simp [Z5]
  have hz3:Xg (fun _=>0) x.orders.length=Xg (X4 (p.unserved.take 0)) x.orders.length:=YX fun i _=>by simp [X4]
  cases c
  ·refine Zb [19] _ _ _ _ ?_;simp (disch:=omega) only [Zpq,Ze,Xb,Bool.false_eq_true,go_sem,seval];refine ZZ [19] [2,3,4,5,23,24] (fun k:Nat=> [(25,.p (.int .i64 k))]) (fun k=> [Ze x,Xb p,.elems 1 ((Xg (fun _=>0) x.orders.length).map eI),.elems 1 ((Xg (Z5 (p.routes.take k)) x.orders.length).map eI)]) (fun k=>k<=p.routes.length) (fun k=>p.routes.length-k) 0 (by simp) (Weak.mk ?_) ?_
   ·simp (disch:=omega) only [Ze,Xb,hz2,List.take_zero,go_sem,seval]
   ·intro k hk;simp (disch:=omega) only [Ze,Xb,go_sem,seval];refine cD ?_ ?_<;>intro h1<;>simp (disch:=omega) only [Sh.out h1,go_sem,seval]
    ·have hk2:k<p.routes.length:=by omega
     obtain ⟨v1,v2⟩:=hv _ (Zn hk2);have hso:=Vu (nth p.routes k) v2;rw [hb k hk2] at hso;refine Y7 hso ?_;have hr0:=hrl (Z5 (p.routes.take k));simp (disch:=first | omega | (simp only [List.length_cons,List.length_nil,List.length_append,List.length_map,List.length_take,List.length_drop]<;>omega)) only [hr0,eq_self,if_true,go_sem,seval];refine Zg [2,3,4,5,9,23,24,25,35] (fun i:Nat=> [(36,.p (.int .i64 i))]) (fun i=> [Ze x,Xb p,.elems 1 ((Xg (fun _=>0) x.orders.length).map eI),.elems 1 ((Xg (fun j=>if j<i then Z5 (p.routes.take (k+1)) j else Z5 (p.routes.take k) j) x.orders.length).map eI),Xd (nth p.routes k)]) (fun i=>i<=x.orders.length) (fun i=>x.orders.length-i) 0 (by simp) (Weak.mk ?_) ?_
     ·simp (disch:=omega) only [Ze,Xb,Xd,hrl,go_sem,seval]
      congr 1
     ·intro i hi;have hri:=hrl (fun j=>if j<i then Z5 (p.routes.take (k+1)) j else Z5 (p.routes.take k) j);simp (disch:=omega) only [Ze,Xb,Xd,go_sem,seval];refine cD ?_ ?_<;>intro h2<;>simp (disch:=omega) only [Sh.out h2,go_sem,seval]
      ·have hi2:i<x.orders.length:=by omega
       have hsu:=Zbq hk2 i;have hrg:=ZaR (rs:=p.routes) (k:=k) i;have hbt:=Zix v1 i (by omega)
       have hn1:nth (Xg (fun j=>if j<i then Z5 (p.routes.take (k+1)) j else Z5 (p.routes.take k) j) x.orders.length) i=Z5 (p.routes.take k) i:=by rw [YJ hi2,if_neg (by omega)]
       have he:elt ((Xg (fun j=>if j<i then Z5 (p.routes.take (k+1)) j else Z5 (p.routes.take k) j) x.orders.length).map eI) i= .int .i64 (Z5 (p.routes.take k) i):=by rw [Z2 (by omega),hn1];rfl
       have Zx:((Xg (fun j=>if j<i then Z5 (p.routes.take (k+1)) j else Z5 (p.routes.take k) j) x.orders.length).map eI).set i (.int .i64 (Z5 (p.routes.take (k+1)) i))=(Xg (fun j=>if j<i+1 then Z5 (p.routes.take (k+1)) j else Z5 (p.routes.take k) j) x.orders.length).map eI:=by
        have h0:=V8 (f:=fun j=>if j<i then Z5 (p.routes.take (k+1)) j else Z5 (p.routes.take k) j) (n:=x.orders.length) (j:=i) (v:=Z5 (p.routes.take (k+1)) i);rw [show PV.int IntKind.i64 (Z5 (p.routes.take (k+1)) i)=eI (Z5 (p.routes.take (k+1)) i) from rfl,<- List.map_set,h0]
        congr 1
        refine YX fun j _=> ?_
        by_cases c:j=i
        ·subst c;simp
        ·rw [if_neg c]
         by_cases c2:j<i
         ·rw [if_pos c2,if_pos (by omega)]
         ·rw [if_neg c2,if_neg (by omega)]
       refine Zq 9 mixed (by kernel_rfl) (by kernel_rfl) ?_;simp (disch:=omega) only [go_sem,seval];simp (disch:=first | omega | (simp only [List.length_cons,List.length_nil,List.length_append,List.length_map,List.length_take,List.length_drop]<;>omega)) only [he,hri,hi2,eq_self,true_and,if_true,go_sem,seval];refine ⟨i+1,by omega,by omega,Weak.mk ?_⟩;have hbs:=ZeP v1 i (by omega)
       have hw:IntKind.i64.wrap (Z5 (p.routes.take k) i+(if hasO (nth p.routes k).visits (i:Int)=true then 1 else 0))=Z5 (p.routes.take (k+1)) i:=by
        rw [hsu]
        split
        ·exact IntWalk.i64_in _ (by omega)
        ·rw [Int.add_zero];exact IntWalk.i64_in _ (by omega)
       simp (disch:=omega) only [Ze,Xb,Xd,go_sem,seval]
       erw [hbs]
       rw [hw];exact Zx
      ·have hin:i=x.orders.length:=by omega
       have hfin:Xg (fun j=>if j<i then Z5 (p.routes.take (k+1)) j else Z5 (p.routes.take k) j) x.orders.length=Xg (Z5 (p.routes.take (k+1))) x.orders.length:=YX fun j hj=>by rw [if_pos (by omega)]
       exact ⟨k+1,by omega,by omega,Weak.mk (by simp (disch:=omega) only [Ze,Xb,hfin,go_sem,seval])⟩
    ·have hkl:k=p.routes.length:=by omega
     subst hkl;rw [List.take_length];refine ZZ [19] [2,52,53] (fun k:Nat=> [(4,.sl 3 0 x.orders.length x.orders.length),(5,.sl 2 0 x.orders.length x.orders.length),(54,.p (.int .i64 k))]) (fun k=> [Ze x,Xb p,.elems 1 ((Xg (X4 (p.unserved.take k)) x.orders.length).map eI),.elems 1 ((Xg (Z5 p.routes) x.orders.length).map eI)]) (fun k=>k<=p.unserved.length/\ ∀j,j<k->0<=nth p.unserved j/\nth p.unserved j<(x.orders.length:Int)) (fun k=>p.unserved.length-k) 0 (by simp) (Weak.mk ?_) ?_
     ·simp (disch:=omega) only [Ze,Xb,hz3,List.take_zero,go_sem,seval]
     ·rintro k ⟨hk,hno⟩;simp (disch:=omega) only [Ze,Xb,go_sem,seval]
      have hbad:k<p.unserved.length->(decide (0<=nth p.unserved k)&&decide (nth p.unserved k<(x.orders.length:Int)))=false->JX x p.unserved=false:=fun h1 h2=>by
       rw [JX,List.all_eq_false];exact ⟨_,Zn h1,by rw [h2];simp⟩
      refine cD ?_ ?_<;>intro h2<;>simp (disch:=omega) only [Sh.out h2,go_sem,seval]
      ·have hk2:k<p.unserved.length:=by omega
       refine gF ?_ ?_<;>intro h3<;>simp (disch:=omega) only [Sh.out h3,go_sem,seval]
       ·rw [hbad hk2 (by simp;omega)];exact we (by simp (disch:=omega) only [List.map_nil,go_sem,seval])
       ·refine cD ?_ ?_<;>intro h4<;>simp (disch:=omega) only [Sh.out h4,go_sem,seval]
        ·rw [hbad hk2 (by simp;omega)];exact we (by simp (disch:=omega) only [List.map_nil,go_sem,seval])
        ·have hui:(nth p.unserved k).toNat<x.orders.length:=by omega
         have hsu:=ZbL hk2;have hg:=KY (us:=p.unserved) (k:=k) (nth p.unserved k).toNat;have hrr:=hrl (X4 (p.unserved.take k))
         have hnx:(Xg (X4 (p.unserved.take k)) x.orders.length).set (nth p.unserved k).toNat (X4 (p.unserved.take k) (nth p.unserved k).toNat+1)=Xg (X4 (p.unserved.take (k+1))) x.orders.length:=by
          rw [V8];refine YX fun i _=> ?_;rw [hsu i]
          by_cases c:i=(nth p.unserved k).toNat
          ·rw [if_pos c,if_pos (by omega),c]
          ·rw [if_neg c,if_neg (by omega)]
         have he:elt ((Xg (X4 (p.unserved.take k)) x.orders.length).map eI) (nth p.unserved k).toNat= .int .i64 (X4 (p.unserved.take k) (nth p.unserved k).toNat):=by rw [Z2 (by omega),YJ hui];rfl
         have Zx:((Xg (X4 (p.unserved.take k)) x.orders.length).map eI).set (nth p.unserved k).toNat (.int .i64 (X4 (p.unserved.take k) (nth p.unserved k).toNat+1))=(Xg (X4 (p.unserved.take (k+1))) x.orders.length).map eI:=by rw [<- hnx,List.map_set];rfl
         generalize X4 (p.unserved.take k) (nth p.unserved k).toNat=c at *
         simp (disch:=first | omega | (simp only [List.length_cons,List.length_nil,List.length_append,List.length_map,List.length_take,List.length_drop]<;>omega)) only [he,hrr,hui,eq_self,true_and,if_true,go_sem,seval];exact ⟨k+1,⟨by omega,Zl.2 ⟨hno,by omega⟩⟩,by omega,Weak.mk (by simp (disch:=omega) only [Ze,Xb,Zx,go_sem,seval])⟩
      ·have hkl:k=p.unserved.length:=by omega
       subst hkl
       have hall:JX x p.unserved=true:=by
        rw [JX,List.all_eq_true];intro u hu;obtain ⟨j,hj,rfl⟩:=List.mem_iff_getElem.1 hu;have:=hno j hj;rw [Zd hj] at this;simp [this.1,this.2]
       rw [hall,List.take_length];have r1:=hrl (Z5 p.routes);have r2:=hrl (X4 p.unserved);refine Zm (Weak.fz (o:=2) (by rfl)) ?_;refine Zm (Weak.fz (o:=3) (by rfl)) ?_;refine Zb [] _ _ _ _ ?_;simp (disch:=omega) only [List.map_cons,List.map_nil,List.set_cons_succ,List.set_cons_zero,go_sem,seval];rw [if_pos r1,if_pos r2];simp (disch:=omega) only [go_sem,seval];exact we
  ·refine Zb [19] _ _ _ _ ?_;simp (disch:=omega) only [Zpq,Ze,Xb,Bool.false_eq_true,go_sem,seval];refine ZZ [19] [2,3,4,5,23,24] (fun k:Nat=> [(25,.p (.int .i64 k))]) (fun k=> [Ze x,Xb p,.elems 1 ((Xg (Z5 (p.routes.take k)) x.orders.length).map eI),.elems 1 ((Xg (fun _=>0) x.orders.length).map eI)]) (fun k=>k<=p.routes.length) (fun k=>p.routes.length-k) 0 (by simp) (Weak.mk ?_) ?_
   ·simp (disch:=omega) only [Ze,Xb,hz2,List.take_zero,go_sem,seval]
   ·intro k hk;simp (disch:=omega) only [Ze,Xb,go_sem,seval];refine cD ?_ ?_<;>intro h1<;>simp (disch:=omega) only [Sh.out h1,go_sem,seval]
    ·have hk2:k<p.routes.length:=by omega
     obtain ⟨v1,v2⟩:=hv _ (Zn hk2);have hso:=Vu (nth p.routes k) v2;rw [hb k hk2] at hso;refine Y7 hso ?_;have hr0:=hrl (Z5 (p.routes.take k));simp (disch:=first | omega | (simp only [List.length_cons,List.length_nil,List.length_append,List.length_map,List.length_take,List.length_drop]<;>omega)) only [hr0,eq_self,if_true,go_sem,seval];refine Zg [2,3,4,5,9,23,24,25,35] (fun i:Nat=> [(36,.p (.int .i64 i))]) (fun i=> [Ze x,Xb p,.elems 1 ((Xg (fun j=>if j<i then Z5 (p.routes.take (k+1)) j else Z5 (p.routes.take k) j) x.orders.length).map eI),.elems 1 ((Xg (fun _=>0) x.orders.length).map eI),Xd (nth p.routes k)]) (fun i=>i<=x.orders.length) (fun i=>x.orders.length-i) 0 (by simp) (Weak.mk ?_) ?_
     ·simp (disch:=omega) only [Ze,Xb,Xd,hrl,go_sem,seval]
      congr 1
     ·intro i hi;have hri:=hrl (fun j=>if j<i then Z5 (p.routes.take (k+1)) j else Z5 (p.routes.take k) j);simp (disch:=omega) only [Ze,Xb,Xd,go_sem,seval];refine cD ?_ ?_<;>intro h2<;>simp (disch:=omega) only [Sh.out h2,go_sem,seval]
      ·have hi2:i<x.orders.length:=by omega
       have hsu:=Zbq hk2 i;have hrg:=ZaR (rs:=p.routes) (k:=k) i;have hbt:=Zix v1 i (by omega)
       have hn1:nth (Xg (fun j=>if j<i then Z5 (p.routes.take (k+1)) j else Z5 (p.routes.take k) j) x.orders.length) i=Z5 (p.routes.take k) i:=by rw [YJ hi2,if_neg (by omega)]
       have he:elt ((Xg (fun j=>if j<i then Z5 (p.routes.take (k+1)) j else Z5 (p.routes.take k) j) x.orders.length).map eI) i= .int .i64 (Z5 (p.routes.take k) i):=by rw [Z2 (by omega),hn1];rfl
       have Zx:((Xg (fun j=>if j<i then Z5 (p.routes.take (k+1)) j else Z5 (p.routes.take k) j) x.orders.length).map eI).set i (.int .i64 (Z5 (p.routes.take (k+1)) i))=(Xg (fun j=>if j<i+1 then Z5 (p.routes.take (k+1)) j else Z5 (p.routes.take k) j) x.orders.length).map eI:=by
        have h0:=V8 (f:=fun j=>if j<i then Z5 (p.routes.take (k+1)) j else Z5 (p.routes.take k) j) (n:=x.orders.length) (j:=i) (v:=Z5 (p.routes.take (k+1)) i);rw [show PV.int IntKind.i64 (Z5 (p.routes.take (k+1)) i)=eI (Z5 (p.routes.take (k+1)) i) from rfl,<- List.map_set,h0]
        congr 1
        refine YX fun j _=> ?_
        by_cases c:j=i
        ·subst c;simp
        ·rw [if_neg c]
         by_cases c2:j<i
         ·rw [if_pos c2,if_pos (by omega)]
         ·rw [if_neg c2,if_neg (by omega)]
       refine Zq 9 mixed (by kernel_rfl) (by kernel_rfl) ?_;simp (disch:=omega) only [go_sem,seval];simp (disch:=first | omega | (simp only [List.length_cons,List.length_nil,List.length_append,List.length_map,List.length_take,List.length_drop]<;>omega)) only [he,hri,hi2,eq_self,true_and,if_true,go_sem,seval];refine ⟨i+1,by omega,by omega,Weak.mk ?_⟩;have hbs:=ZeP v1 i (by omega)
       have hw:IntKind.i64.wrap (Z5 (p.routes.take k) i+(if hasO (nth p.routes k).visits (i:Int)=true then 1 else 0))=Z5 (p.routes.take (k+1)) i:=by
        rw [hsu]
        split
        ·exact IntWalk.i64_in _ (by omega)
        ·rw [Int.add_zero];exact IntWalk.i64_in _ (by omega)
       simp (disch:=omega) only [Ze,Xb,Xd,go_sem,seval]
       erw [hbs]
       rw [hw];exact Zx
      ·have hin:i=x.orders.length:=by omega
       have hfin:Xg (fun j=>if j<i then Z5 (p.routes.take (k+1)) j else Z5 (p.routes.take k) j) x.orders.length=Xg (Z5 (p.routes.take (k+1))) x.orders.length:=YX fun j hj=>by rw [if_pos (by omega)]
       exact ⟨k+1,by omega,by omega,Weak.mk (by simp (disch:=omega) only [Ze,Xb,hfin,go_sem,seval])⟩
    ·have hkl:k=p.routes.length:=by omega
     subst hkl;rw [List.take_length];refine ZZ [19] [2,52,53] (fun k:Nat=> [(4,.sl 2 0 x.orders.length x.orders.length),(5,.sl 3 0 x.orders.length x.orders.length),(54,.p (.int .i64 k))]) (fun k=> [Ze x,Xb p,.elems 1 ((Xg (Z5 p.routes) x.orders.length).map eI),.elems 1 ((Xg (X4 (p.unserved.take k)) x.orders.length).map eI)]) (fun k=>k<=p.unserved.length/\ ∀j,j<k->0<=nth p.unserved j/\nth p.unserved j<(x.orders.length:Int)) (fun k=>p.unserved.length-k) 0 (by simp) (Weak.mk ?_) ?_
     ·simp (disch:=omega) only [Ze,Xb,hz3,List.take_zero,go_sem,seval]
     ·rintro k ⟨hk,hno⟩;simp (disch:=omega) only [Ze,Xb,go_sem,seval]
      have hbad:k<p.unserved.length->(decide (0<=nth p.unserved k)&&decide (nth p.unserved k<(x.orders.length:Int)))=false->JX x p.unserved=false:=fun h1 h2=>by
       rw [JX,List.all_eq_false];exact ⟨_,Zn h1,by rw [h2];simp⟩
      refine cD ?_ ?_<;>intro h2<;>simp (disch:=omega) only [Sh.out h2,go_sem,seval]
      ·have hk2:k<p.unserved.length:=by omega
       refine gF ?_ ?_<;>intro h3<;>simp (disch:=omega) only [Sh.out h3,go_sem,seval]
       ·rw [hbad hk2 (by simp;omega)];exact we (by simp (disch:=omega) only [List.map_nil,go_sem,seval])
       ·refine cD ?_ ?_<;>intro h4<;>simp (disch:=omega) only [Sh.out h4,go_sem,seval]
        ·rw [hbad hk2 (by simp;omega)];exact we (by simp (disch:=omega) only [List.map_nil,go_sem,seval])
        ·have hui:(nth p.unserved k).toNat<x.orders.length:=by omega
         have hsu:=ZbL hk2;have hg:=KY (us:=p.unserved) (k:=k) (nth p.unserved k).toNat;have hrr:=hrl (X4 (p.unserved.take k))
         have hnx:(Xg (X4 (p.unserved.take k)) x.orders.length).set (nth p.unserved k).toNat (X4 (p.unserved.take k) (nth p.unserved k).toNat+1)=Xg (X4 (p.unserved.take (k+1))) x.orders.length:=by
          rw [V8];refine YX fun i _=> ?_;rw [hsu i]
          by_cases c:i=(nth p.unserved k).toNat
          ·rw [if_pos c,if_pos (by omega),c]
          ·rw [if_neg c,if_neg (by omega)]
         have he:elt ((Xg (X4 (p.unserved.take k)) x.orders.length).map eI) (nth p.unserved k).toNat= .int .i64 (X4 (p.unserved.take k) (nth p.unserved k).toNat):=by rw [Z2 (by omega),YJ hui];rfl
         have Zx:((Xg (X4 (p.unserved.take k)) x.orders.length).map eI).set (nth p.unserved k).toNat (.int .i64 (X4 (p.unserved.take k) (nth p.unserved k).toNat+1))=(Xg (X4 (p.unserved.take (k+1))) x.orders.length).map eI:=by rw [<- hnx,List.map_set];rfl
         generalize X4 (p.unserved.take k) (nth p.unserved k).toNat=c at *
         simp (disch:=first | omega | (simp only [List.length_cons,List.length_nil,List.length_append,List.length_map,List.length_take,List.length_drop]<;>omega)) only [he,hrr,hui,eq_self,true_and,if_true,go_sem,seval];exact ⟨k+1,⟨by omega,Zl.2 ⟨hno,by omega⟩⟩,by omega,Weak.mk (by simp (disch:=omega) only [Ze,Xb,Zx,go_sem,seval])⟩
      ·have hkl:k=p.unserved.length:=by omega
       subst hkl
       have hall:JX x p.unserved=true:=by
        rw [JX,List.all_eq_true];intro u hu;obtain ⟨j,hj,rfl⟩:=List.mem_iff_getElem.1 hu;have:=hno j hj;rw [Zd hj] at this;simp [this.1,this.2]
       rw [hall,List.take_length];have r1:=hrl (Z5 p.routes);have r2:=hrl (X4 p.unserved);refine Zm (Weak.fz (o:=2) (by rfl)) ?_;refine Zm (Weak.fz (o:=3) (by rfl)) ?_;refine Zb [] _ _ _ _ ?_;simp (disch:=omega) only [List.map_cons,List.map_nil,List.set_cons_succ,List.set_cons_zero,go_sem,seval];rw [if_pos r1,if_pos r2];simp (disch:=omega) only [go_sem,seval];exact we
def ZcC (x:Inst):List Rte->Int
 | []=>0
 | r::l=>if ZS x r=0 then ZcC x l else ZS x r
theorem ZgX {x:Inst} : ∀ {l:List Rte} {k:Nat},k<l.length->(∀j,j<k->ZS x (nth l j)=0)-> ¬ZS x (nth l k)=0->ZcC x l=ZS x (nth l k)
 | r::l,0,_,_,h=>by rw [ZcC,if_neg (show ¬ZS x r=0 from h)];rfl
 | r::l,k+1,hk,h0,h=>by
  rw [ZcC,if_pos (show ZS x r=0 from h0 0 (by omega))];exact ZgX (l:=l) (k:=k) (by simpa using hk) (fun j hj=>h0 (j+1) (by omega)) h
theorem Zgo {x:Inst} : ∀ {l:List Rte},(∀j,j<l.length->ZS x (nth l j)=0)->ZcC x l=0
 | [],_=>rfl
 | r::l,h=>by
  rw [ZcC,if_pos (show ZS x r=0 from h 0 (by simp))];exact Zgo fun j hj=>h (j+1) (by simpa using hj)
end Go.Proofs.YthmplgaldjpgiaaGreatDoor.K
