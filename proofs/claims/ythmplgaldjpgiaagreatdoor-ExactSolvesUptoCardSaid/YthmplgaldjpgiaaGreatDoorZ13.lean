/- Declarations that the closing texts need, part 13: joined by tools/slim.py. -/
import Derived.Test.YthmplgaldjpgiaaGreatDoorZ12
set_option linter.unusedVariables false
set_option linter.unusedSimpArgs false
namespace Go.Proofs.YthmplgaldjpgiaaGreatDoor.K
open Go Go.AM Go.Proofs
inductive Gr (x:Inst) (S:Nat):List Vis->Prop where
 | nil:Gr x S []
 | snoc {l:List Vis} {v:Vis} (h:Gr x S l) (hv:v∈nextU x S l x.orders.length):Gr x S (l++ [v])
theorem Zfv (os:List Ord) (i:Nat):(ZV os i).Nodup:=by
 rcases W2 os i with h | h | h | h<;>rw [h]<;>simp
theorem ZkY {os:List Ord} {i:Nat} {l:List Vis} {v:Vis} (hv:v∈ZV os i):Zao l v (ZV os i)=true↔(v.drp=true->⟨i,false⟩∈ZV os i->⟨i,false⟩∈l):=by
 rcases W2 os i with h | h | h | h<;>rw [h] at hv ⊢ <;>simp at hv
 ·subst hv;simp [Zao]
 ·subst hv;simp [Zao]
 ·rcases hv with rfl | rfl
  ·simp [Zao]
  ·simp [Zao,Xp]
theorem Yl {x:Inst} {l:List Vis} {v:Vis} {i:Nat} (hv:v∈ZV x.orders i):Xo x l v=true↔v ∉ l/\(v.drp=true->⟨i,false⟩∈ZV x.orders i->⟨i,false⟩∈l)/\ ∀p∈x.before,p.2=(i:Int)-> ∀w∈ZV x.orders p.1.toNat,w∈l:=by
 have h:=Z7 hv;rw [Xo,h,Int.toNat_natCast,Bool.and_eq_true,Bool.and_eq_true,decide_eq_true_eq,ZsE,ZkY hv,Zkp,and_assoc]
theorem YC {x:Inst} {S:Nat} {l:List Vis} {v:Vis} {k:Nat} :v∈nextU x S l k↔ ∃i,i<k/\S.testBit i=true/\(nth x.orders i).off=false/\v∈ZV x.orders i/\Xo x l v=true:=by
 rw [nextU,List.mem_flatMap]
 constructor
 ·rintro ⟨i,hi,h⟩;rw [WM] at h
  split at h
  ·rename_i hc;rw [List.mem_filter] at h;exact ⟨i,by simpa using hi,hc.1,hc.2,h.1,h.2⟩
  ·simp at h
 ·rintro ⟨i,hi,h1,h2,h3,h4⟩;exact ⟨i,by simpa using hi,by rw [WM,if_pos ⟨h1,h2⟩,List.mem_filter];exact ⟨h3,h4⟩⟩
def Zcy (x:Inst) (S k:Nat):List Vis:=(List.range k).flatMap fun i=>if S.testBit i=true then ZV x.orders i else []
theorem Zaw (x S k):Zcy x S (k+1)=Zcy x S k++if S.testBit k=true then ZV x.orders k else []:=by simp [Zcy,List.range_succ]
theorem VM (x S): ∀k,(Zcy x S k).length=Zau x S k
 | 0=>by simp [Zcy,Zau]
 | k+1=>by
  rw [Zaw,V8,List.length_append,VM x S k]
  split<;>simp
theorem X4 {x S k v} :v∈Zcy x S k↔ ∃i,i<k/\S.testBit i=true/\v∈ZV x.orders i:=by
 rw [Zcy,List.mem_flatMap]
 constructor
 ·rintro ⟨i,hi,h⟩
  split at h
  ·exact ⟨i,by simpa using hi,by assumption,h⟩
  ·simp at h
 ·rintro ⟨i,hi,h1,h2⟩;exact ⟨i,by simpa using hi,by rw [if_pos h1];exact h2⟩
theorem J4 (x S): ∀k,(Zcy x S k).Nodup
 | 0=>by simp [Zcy]
 | k+1=>by
  rw [Zaw,List.nodup_append];refine ⟨J4 x S k,?_,fun a ha b hb=> ?_⟩
  ·split
   ·exact Zfv _ _
   ·simp
  ·obtain ⟨i,hi,_,h2⟩:=X4.1 ha
   split at hb
   ·have h3:=Z7 h2;have h4:=Z7 hb;rintro rfl;omega
   ·simp at hb
theorem Gr.nodup {x S l} (h:Gr x S l):l.Nodup:=by
 induction h with
 | nil=>simp
 | snoc _ hv ih =>
  obtain ⟨i,_,_,_,h4,h5⟩:=YC.1 hv;rw [List.nodup_append];refine ⟨ih,by simp,fun a ha b hb=> ?_⟩;simp at hb;subst hb;exact fun e=>((Yl h4).1 h5).1 (e ▸ ha)
theorem Gr.sub {x S l} (h:Gr x S l): ∀v∈l,v∈Zcy x S x.orders.length:=by
 induction h with
 | nil=>simp
 | snoc _ hv ih =>
  obtain ⟨i,h1,h2,_,h4,_⟩:=YC.1 hv;intro w hw;rcases List.mem_append.1 hw with hw | hw
  ·exact ih w hw
  ·simp at hw;subst hw;exact X4.2 ⟨i,h1,h2,h4⟩
theorem ZcM {α:Type} [DecidableEq α] {l m:List α} (hl:l.Nodup) (h: ∀v∈l,v∈m):l.length<=m.length:=List.Nodup.length_le_of_subset hl h
theorem ZuP {α:Type} [DecidableEq α] {l m:List α} (hl:l.Nodup) (h: ∀v∈l,v∈m) (hm:m.length<=l.length): ∀v∈m,v∈l:=fun v hv=>by
 refine Classical.byContradiction fun hno=> ?_
 have:(v::l).length<=m.length:=ZcM (by simp [hno,hl]) (fun w hw=>by
  rcases List.mem_cons.1 hw with rfl | hw
  ·exact hv
  ·exact h w hw)
 simp at this;omega
theorem Gr.len {x S l} (h:Gr x S l):l.length<=Zau x S x.orders.length:=by
 rw [<- VM];exact ZcM h.nodup h.sub
theorem Gr.full {x S l} (h:Gr x S l) (hl:l.length=Zau x S x.orders.length): ∀v∈Zcy x S x.orders.length,v∈l:=ZuP h.nodup h.sub (by rw [VM];omega)
theorem Gr.more {x S l} (ha:Alw x S) (hn:x.orders.length<=60) (hv:Val x.orders.length x.before) (hm: ∃v∈Zcy x S x.orders.length,v ∉ l): ∃v,v∈nextU x S l x.orders.length:=by
 obtain ⟨v,hva,hvl⟩:=hm;obtain ⟨i,h1,h2,h3⟩:=X4.1 hva;obtain ⟨j,⟨j1,j2,w,j3,j4⟩,hj⟩:=ZfC hv (P:=fun i=>i<x.orders.length/\S.testBit i=true/\ ∃w∈ZV x.orders i,w ∉ l) (fun i hi=>⟨hi.1,ha.acyc i hi.1 hi.2.1⟩) ⟨h1,h2,v,h3,hvl⟩
 have hpre: ∀p∈x.before,p.2=(j:Int)-> ∀w∈ZV x.orders p.1.toNat,w∈l:=fun p hp e w hw=>by
  refine Classical.byContradiction fun hno=> ?_;obtain ⟨v1,v2,v3,v4⟩:=hv p hp;have:=ha.closed p hp (Kt.2 ⟨by omega,by omega,by rw [e];simpa using j2⟩);exact hj p hp e ⟨by omega,(Kt.1 this).2.2,w,hw,hno⟩
 by_cases hf:(⟨j,false⟩:Vis)∈ZV x.orders j/\(⟨j,false⟩:Vis) ∉ l
 ·exact ⟨⟨j,false⟩,YC.2 ⟨j,j1,j2,ha.off j j1 j2,hf.1,(Yl hf.1).2 ⟨hf.2,by simp,hpre⟩⟩⟩
 ·refine ⟨w,YC.2 ⟨j,j1,j2,ha.off j j1 j2,j3,(Yl j3).2 ⟨j4,fun _ hq=> ?_,hpre⟩⟩⟩;exact Classical.byContradiction fun hno=>hf ⟨hq,hno⟩
theorem Gr.next_nil {x S l} (h:Gr x S l) (ha:Alw x S) (hn:x.orders.length<=60) (hv:Val x.orders.length x.before):nextU x S l x.orders.length= []↔l.length=Zau x S x.orders.length:=by
 constructor
 ·intro e;refine Classical.byContradiction fun hno=> ?_
  have hex: ∃v∈Zcy x S x.orders.length,v ∉ l:=Classical.byContradiction fun hno2=>hno (by
   have h1: ∀v∈Zcy x S x.orders.length,v∈l:=fun v hv=>Classical.byContradiction fun h3=>hno2 ⟨v,hv,h3⟩;have:=ZcM (J4 x S _) h1;rw [VM] at this;have:=h.len
   omega)
  obtain ⟨v,hv⟩:=Gr.more (l:=l) ha hn hv hex;rw [e] at hv;simp at hv
 ·intro e;rw [List.eq_nil_iff_forall_not_mem];intro v hv;obtain ⟨i,h1,h2,_,h4,h5⟩:=YC.1 hv;exact ((Yl h4).1 h5).1 (h.full e v (X4.2 ⟨i,h1,h2,h4⟩))
theorem ZiJ {x:Inst} {S:Nat} (hne:Vne x) (hS:S / pw x.orders.length=0) (h0:S≠0):0<Zau x S x.orders.length:=by
 have: ∃i,S.testBit i=true:=by
  refine Classical.byContradiction fun hno=>h0 (Nat.eq_of_testBit_eq fun i=> ?_)
  cases h:S.testBit i with
  | false=>simp
  | true=>exact absurd ⟨i,h⟩ hno
 obtain ⟨i,hi⟩:=this;have hlt:=Zix hS hi;obtain ⟨v,hv⟩:=List.exists_mem_of_ne_nil _ (hne i hlt);have hm:v∈Zcy x S x.orders.length:=X4.2 ⟨i,hlt,hi,hv⟩;have:=List.length_pos_of_mem hm;rwa [VM] at this
def ext (nx:List Vis->List Vis):Nat->List Vis->List (List Vis)->List (List Vis)
 | 0,l,outs=>if 8192<outs.length then outs else outs++ [l]
 | f+1,l,outs=>if 8192<outs.length then outs else (nx l).foldl (fun acc v=>ext nx f (l++ [v]) acc) outs
set_option maxRecDepth 8000
set_option maxHeartbeats 8000000
theorem Ziv {S n:Nat} (hS:S<9223372036854775808) (h: ∀j,j<63->S.testBit j=true->j<n):S / pw n=0:=by
 refine Nat.div_eq_of_lt ?_;refine Nat.lt_pow_two_of_testBit S fun i hi=> ?_;rcases Nat.lt_or_ge i 63 with h2 | h2
 ·cases hb:S.testBit i with
  | false=>rfl
  | true=>have:=h i h2 hb;omega
 ·exact Nat.testBit_lt_two_pow (Nat.lt_of_lt_of_le hS (Nat.pow_le_pow_right (by omega) h2:2^63<=2^i))
def Zme (x:Inst) (l:List Vis):Int :=
 if l.any (VL x)=true then 2
 else if l.length=0 then 2
 else if (l.any fun v=>(nth x.orders v.order.toNat).off)=true then 9
 else if ((List.range l.length).any fun i=>decide (vIx l (nth l i)≠(i:Int)))=true then 6
 else if l.all (pairB x.orders l)=false then 19
 else if apB x (Yd l)=true then 20
 else if x.before.all (V4 (Yd l) l)=false then 21
 else 0
theorem Zfm (x:Inst) (r:Rte) (ho:x.orders.length<=60) (hl:r.visits.length<=1048576) (hap:x.apart.length<=1048576) (hbe:x.before.length<=1048576) (hp:Plc x) :
  PC 227 [.p (Zt x),.p (Wr r)] (.int .i64 (Zme x r.visits)):=by
 refine Za Tryz.func227 rfl Zs3 ?_;simp (disch:=omega) only [Tryz.f227,go_sem,seval];refine Zf [2,3,5] (fun k:Nat=> [(6,.p (.int .i64 k))]) (fun _=> [Zc x,ZB r]) (fun k=>k<=r.visits.length/\ ∀j,j<k->VL x (nth r.visits j)=false) (fun k=>r.visits.length-k) 0 (by simp) (Weak.mk ?_) ?_
 ·simp (disch:=omega) only [Zc,ZB,go_sem,seval]
 ·rintro k ⟨hk,hno⟩;simp (disch:=omega) only [Zc,ZB,go_sem,seval];refine cD ?_ ?_<;>intro h<;>simp (disch:=omega) only [Sh.out h,go_sem,seval]
  ·have hk2:k<r.visits.length:=by omega
   refine Zg mixed (by kernel_rfl) (by kernel_rfl) ?_;simp (disch:=omega) only [go_sem,seval];refine gF ?_ ?_<;>intro h2<;>simp (disch:=omega) only [Sh.out h2,go_sem,seval]
   ·have:VL x (nth r.visits k)=true:=by simp [VL];omega
    rw [Zme,if_pos (Yx hk2 this)]
   ·refine cD ?_ ?_<;>intro h3<;>simp (disch:=omega) only [Sh.out h3,go_sem,seval]
    ·have:VL x (nth r.visits k)=true:=by simp [VL];omega
     rw [Zme,if_pos (Yx hk2 this)]
    ·exact ⟨k+1,⟨by omega,Zi.2 ⟨hno,by simp [VL];omega⟩⟩,by omega,Weak.mk (by simp (disch:=omega) only [Zc,ZB,go_sem,seval])⟩
  ·have hkl:k=r.visits.length:=by omega
   subst hkl
   have hr1:Zme x r.visits=if r.visits.length=0 then 2 else if (r.visits.any fun v=>(nth x.orders v.order.toNat).off)=true then 9 else if ((List.range r.visits.length).any fun i=>decide (vIx r.visits (nth r.visits i)≠(i:Int)))=true then 6 else if r.visits.all (pairB x.orders r.visits)=false then 19 else if apB x (Yd r.visits)=true then 20 else if x.before.all (V4 (Yd r.visits) r.visits)=false then 21 else 0:=by
    rw [Zme,if_neg (by rw [Vl hno];simp)]
   have hin: ∀j,j<r.visits.length->0<=(nth r.visits j).order/\(nth r.visits j).order<x.orders.length:=fun j hj=>by
    have:=hno j hj;simpa [VL] using this
   have hmem: ∀v∈r.visits,0<=v.order/\v.order<x.orders.length:=fun v hv=>by
    obtain ⟨j,hj,rfl⟩:=List.mem_iff_getElem.1 hv;rw [<- Ze hj];exact hin j hj
   have hord:JH r.visits=(((Yd r.visits:Nat):Int),0):=by
    rw [JH,if_pos];rw [List.all_eq_true];intro v hv;have:=hmem v hv;simp [inS];omega
   have hlt:Yd r.visits<9223372036854775808:=by
    have:=UK r.visits.length (l:=r.visits) (Nat.le_refl _) (fun v hv=>by
     rw [List.take_length] at hv;have:=hmem v hv
     simp [inS];omega)
    rwa [List.take_length] at this
   have hoc:=ZaN r hl;rw [hord] at hoc;refine Ka hoc ?_;simp (disch:=omega) only [Zc,ZB,go_sem,seval];refine cD ?_ ?_<;>intro h3<;>simp (disch:=omega) only [Sh.out h3,go_sem,seval]
   ·rw [hr1,if_pos (by omega)]
   ·rw [hr1,if_neg (by omega)];clear hno hr1 h3 h hk;refine Zf [2,5,7] (fun k:Nat=> [(9,.p (.int .i64 k))]) (fun _=> [Zc x,ZB r]) (fun k=>k<=r.visits.length/\ ∀j,j<k->(nth x.orders (nth r.visits j).order.toNat).off=false) (fun k=>r.visits.length-k) 0 (by simp) (Weak.mk ?_) ?_
    ·simp (disch:=omega) only [Zc,ZB,go_sem,seval]
    ·rintro k ⟨hk,hno⟩;simp (disch:=omega) only [Zc,ZB,go_sem,seval];refine cD ?_ ?_<;>intro h<;>simp (disch:=omega) only [Sh.out h,go_sem,seval]
     ·have hk2:k<r.visits.length:=by omega
      obtain ⟨i1,i2⟩:=hin k hk2
      have i3:(nth r.visits k).order.toNat<x.orders.length:=by omega
      refine Zg mixed (by kernel_rfl) (by kernel_rfl) ?_;simp (disch:=omega) only [XJ,go_sem,seval];refine cD ?_ ?_<;>intro h4<;>simp (disch:=omega) only [Sh.out h4,go_sem,seval]
      ·rw [if_pos (Yx hk2 h4)]
      ·exact ⟨k+1,⟨by omega,Zi.2 ⟨hno,h4⟩⟩,by omega,Weak.mk (by simp (disch:=omega) only [Zc,ZB,go_sem,seval])⟩
     ·have hkl:k=r.visits.length:=by omega
      subst hkl;have e9:(r.visits.any fun v=>(nth x.orders v.order.toNat).off)=false:=Vl hno;rw [e9,if_neg (by simp)];clear hno h hk;refine Zf [2,5,7] (fun k:Nat=> [(10,.p (.int .i64 k))]) (fun _=> [Zc x,ZB r]) (fun k=>k<=r.visits.length/\ ∀j,j<k->vIx r.visits (nth r.visits j)=(j:Int)) (fun k=>r.visits.length-k) 0 (by simp) (Weak.mk ?_) ?_
      ·simp (disch:=omega) only [Zc,ZB,go_sem,seval]
      ·rintro k ⟨hk,hno⟩;simp (disch:=omega) only [Zc,ZB,go_sem,seval];refine cD ?_ ?_<;>intro h<;>simp (disch:=omega) only [Sh.out h,go_sem,seval]
       ·have hk2:k<r.visits.length:=by omega
        refine (Wj r.visits r.visits_c (nth r.visits k) hl).use ?_;simp (disch:=omega) only [go_sem,seval];refine cD ?_ ?_<;>intro h4<;>simp (disch:=omega) only [Sh.out h4,go_sem,seval]
        ·have:((List.range r.visits.length).any fun i=>decide (vIx r.visits (nth r.visits i)≠(i:Int)))=true:=by
          rw [List.any_eq_true];exact ⟨k,by simpa using hk2,by simpa using h4⟩
         rw [if_pos this]
        ·exact ⟨k+1,⟨by omega,Zi.2 ⟨hno,by omega⟩⟩,by omega,Weak.mk (by simp (disch:=omega) only [Zc,ZB,go_sem,seval])⟩
       ·have hkl:k=r.visits.length:=by omega
        subst hkl
        have:((List.range r.visits.length).any fun i=>decide (vIx r.visits (nth r.visits i)≠(i:Int)))=false:=by
         rw [List.any_eq_false];intro i hi;simpa using hno i (by simpa using hi)
        rw [this,if_neg (by simp)];refine (ZhZ x r.visits r.visits_c hl (by omega) hp hmem).use ?_;simp (disch:=omega) only [go_sem,seval];refine cD ?_ ?_<;>intro h4<;>simp (disch:=omega) only [Sh.out h4,go_sem,seval]
        ·rw [if_pos (by simpa using h4)]
        ·rw [if_neg (by simpa using h4)];refine (ZlD x (Yd r.visits) hlt hap).use ?_;simp (disch:=omega) only [go_sem,seval];refine cD ?_ ?_<;>intro h5<;>simp (disch:=omega) only [Sh.out h5,go_sem,seval]
         ·rw [if_pos (by simpa using h5)]
         ·rw [if_neg (by simpa using h5)];refine (Zhe x (Yd r.visits) r.visits r.visits_c hlt hl hbe).use ?_;simp (disch:=omega) only [go_sem,seval];refine cD ?_ ?_<;>intro h6<;>simp (disch:=omega) only [Sh.out h6,go_sem,seval]
          ·rw [if_pos (by simpa using h6)]
          ·rw [if_neg (by simpa using h6)]
structure IFacts (x:Inst):Prop where
 len:x.orders.length<=10
 plc:Plc x
 vne:Vne x
 val:Val x.orders.length x.before
 ne: ∀p∈x.before,p.1≠p.2
 aval:Val x.orders.length x.apart
theorem Zma {n:Int} {word:List UInt8} {sm:Int×Int->Int×Int->Bool} {l:List (Int×Int)} (h:Zap n word sm l l.length= []): ∀p∈l,okP n p=true:=by
 intro p hp;obtain ⟨i,hi,rfl⟩:=List.mem_iff_getElem.1 hp;have h2:=(List.append_eq_nil_iff.1 h).2;rw [List.flatMap_eq_nil_iff] at h2;have h3:=h2 i (by simpa using hi);rw [flt,Ze hi] at h3
 cases h4:okP n l[i] with
 | true=>rfl
 | false=>rw [h4] at h3;simp at h3
theorem Xe {x:Inst} (h:InstOk x):IFacts x:=by
 have ho:=h.orders;obtain ⟨h1,h2⟩:=List.append_eq_nil_iff.1 h.rules;have ha:=Zma h1;have hb:=Zma h2
 have hpl:Plc x:=fun o hm=>by
  obtain ⟨i,hi,rfl⟩:=List.mem_iff_getElem.1 hm;have:=ho.2 i hi;rw [<- Ze hi];exact ⟨this.pick.1,this.drp.1⟩
 have val: ∀l:List (Int×Int),(∀p∈l,okP x.orders.length p=true)->Val x.orders.length l:=fun l h p hp=>by
  have:=h p hp;simp [okP] at this;omega
 refine ⟨ho.1,hpl,fun i hi=> ?_,val _ hb,fun p hp=> ?_,val _ ha⟩
 ·have h3:=ho.2 i hi;have h4:=hpl _ (Zp hi);have h5:=h3.one;unfold ZV
  by_cases h6:0<=(nth x.orders i).pick.place
  ·simp [h6]
  ·have:0<=(nth x.orders i).drp.place:=by omega
   simp [this]
 ·have:=hb p hp;simp [okP] at this;exact this.2
theorem X0 {l:List Vis} {o:Int} :hasO l o=true↔ ∃v∈l,v.order=o:=by simp [hasO]
theorem QA : ∀(l:List Vis) (i:Nat),(Yd l).testBit i=true↔ ∃v∈l,v.order.toNat=i:=by
 have key: ∀(l:List Vis) (s i:Nat),(l.foldl (fun s v=>s|||pw v.order.toNat) s).testBit i=true↔s.testBit i=true\/ ∃v∈l,v.order.toNat=i:=by
  intro l
  induction l with
  | nil=>intro s i;simp
  | cons v l ih =>
   intro s i;rw [List.foldl_cons,ih,Nat.testBit_or,WW,Bool.or_eq_true,decide_eq_true_eq,or_assoc];refine or_congr Iff.rfl ?_
   constructor
   ·rintro (h | ⟨w,hw,h⟩)
    ·exact ⟨v,by simp,h⟩
    ·exact ⟨w,by simp [hw],h⟩
   ·rintro ⟨w,hw,h⟩;rcases List.mem_cons.1 hw with rfl | hw
    ·exact .inl h
    ·exact .inr ⟨w,hw,h⟩
 intro l i;rw [Yd,key];simp
def Inr (x:Inst) (l:List Vis):Prop:= ∀v∈l,0<=v.order/\v.order<x.orders.length
theorem Yi {x:Inst} {l:List Vis} (hi:Inr x l) (hn:x.orders.length<=60) (o:Int) (h:0<=o/\o<=62):nHas (Yd l) o=hasO l o:=by
 rw [Bool.eq_iff_iff,Kt,QA,X0]
 constructor
 ·rintro ⟨h1,h2,v,hv,h3⟩;have:=hi v hv;exact ⟨v,hv,by omega⟩
 ·rintro ⟨v,hv,rfl⟩;exact ⟨h.1,h.2,v,hv,rfl⟩
theorem U0 {l:List Vis} (hd:l.Nodup) {k:Nat} (hk:k<l.length):vIx l (nth l k)=(k:Int):=by
 refine ZdC hk (by simp) fun j hj=> ?_
 have:nth l k≠nth l j:=by
  rw [Ze hk,Ze (by omega)];exact fun e=>(List.pairwise_iff_getElem.1 hd) j k (by omega) hk hj e.symm
 simpa using this
theorem Zgz {l:List Vis} {v:Vis} (h:0<=vIx l v):(vIx l v).toNat<l.length/\nth l (vIx l v).toNat=v:=by
 have hl:=Zh5 (f:=fun w=>decide (v=w)) (l:=l);unfold vIx fIx at h ⊢
 cases hv:l.findIdx? (fun u=>decide (v=u)) with
 | none=>rw [hv] at h;simp at h
 | some i =>
  rw [List.findIdx?_eq_some_iff_getElem] at hv;obtain ⟨h1,h2,_⟩:=hv;simp at h2;exact ⟨by simpa using h1,by simp [Ze h1,h2]⟩
theorem ZlM {l:List Vis} {k:Nat} (hk:k<l.length):0<=vIx l (nth l k)/\vIx l (nth l k)<=(k:Int):=by
 have hm:0<=vIx l (nth l k):=Xp.2 (Zp hk);refine ⟨hm,?_⟩;unfold vIx fIx at hm ⊢
 cases hv:l.findIdx? (fun u=>decide (nth l k=u)) with
 | none=>rw [hv] at hm;simp at hm
 | some i =>
  rw [List.findIdx?_eq_some_iff_getElem] at hv;obtain ⟨h1,h2,h3⟩:=hv;simp;rcases Nat.lt_or_ge k i with h4 | h4
  ·have:=h3 k h4;rw [<- Ze hk] at this;simp at this
  ·exact h4
theorem WT {l:List Vis} {v:Vis} {i:Nat} (h:v∈l.take i): ∃j,j<i/\j<l.length/\nth l j=v:=by
 obtain ⟨j,hj,rfl⟩:=List.mem_iff_getElem.1 h;simp at hj;exact ⟨j,by omega,by omega,by rw [List.getElem_take,Ze (by omega)]⟩
theorem KM {l:List Vis} {i j:Nat} (h:j<i) (hl:j<l.length):nth l j∈l.take i:=by
 rw [Ze hl];exact List.mem_iff_getElem.2 ⟨j,by simp;omega,by simp⟩
theorem Uv {l:List Vis} :Ww l=false↔l.Nodup:=by
 rw [Ww,List.any_eq_false]
 constructor
 ·intro h;rw [List.nodup_iff_pairwise_ne,List.pairwise_iff_getElem];intro i j hi hj hij e;have:=h j (by simpa using hj);simp only [decide_eq_true_eq,Xp] at this;refine this ?_;rw [Ze hj,<- e,<- Ze hi];exact KM hij hi
 ·intro h j hj;simp only [decide_eq_true_eq,Xp];intro hm;obtain ⟨i,h1,h2,h3⟩:=WT hm
  have hj2:j<l.length:=by simpa using hj
  have e1:=U0 h h2;have e2:=U0 h hj2;rw [h3] at e1;omega
theorem Zhz {l:List Vis} :((List.range l.length).any fun i=>decide (vIx l (nth l i)≠(i:Int)))=Ww l:=by
 rw [Bool.eq_iff_iff]
 constructor
 ·intro h;rw [List.any_eq_true] at h;obtain ⟨i,hi,h2⟩:=h
  cases ht:Ww l with
  | true=>rfl
  | false=>have:=U0 (Uv.1 ht) (by simpa using hi);simp [this] at h2
 ·intro h;rw [Ww,List.any_eq_true] at h;obtain ⟨j,hj,h2⟩:=h;simp only [decide_eq_true_eq,Xp] at h2;obtain ⟨i,h3,h4,h5⟩:=WT h2;rw [List.any_eq_true];refine ⟨j,hj,?_⟩;have:=(ZlM h4).2;rw [h5] at this;simp only [ne_eq,decide_not,Bool.not_eq_true',decide_eq_false_iff_not];omega
def oIx (l:List Vis) (b:Int):Int:=fIx (fun v=>decide (v.order=b)) l
theorem UH {l:List Vis} {b:Int} :0<=oIx l b↔ ∃v∈l,v.order=b:=by
 have:=Zhq (f:=fun v=>decide (v.order=b)) (l:=l);rw [<- X0,hasO,<- this,oIx];simp
theorem Jm {l:List Vis} {b:Int} (h:0<=oIx l b):(oIx l b).toNat<l.length/\(nth l (oIx l b).toNat).order=b/\ ∀j,j<(oIx l b).toNat->(nth l j).order≠b:=by
 unfold oIx fIx at h ⊢
 cases hv:l.findIdx? (fun v=>decide (v.order=b)) with
 | none=>rw [hv] at h;simp at h
 | some i =>
  rw [List.findIdx?_eq_some_iff_getElem] at hv;obtain ⟨h1,h2,h3⟩:=hv;simp at h2;refine ⟨by simpa using h1,by simpa [Ze h1] using h2,fun j hj=> ?_⟩
  have hj2:j<i:=by simpa using hj
  have:=h3 j hj2;rw [Ze (by omega)];simpa using this
theorem Zqk {l:List Vis} {b:Int} {k:Nat} (hk:k<l.length) (h:(nth l k).order=b):0<=oIx l b/\oIx l b<=(k:Int):=by
 have h0:0<=oIx l b:=UH.2 ⟨_,Zp hk,h⟩;refine ⟨h0,?_⟩;obtain ⟨h1,h2,h3⟩:=Jm h0;rcases Nat.lt_or_ge k (oIx l b).toNat with h4 | h4
 ·exact absurd h (h3 k h4)
 ·omega
theorem Wd {l:List Vis} {a b:Int} :beforeB l a b=true↔(0<=oIx l b->(∃v∈l,v.order=a)/\ ∀j,j<l.length->(nth l j).order=a->(j:Int)<oIx l b):=by
 unfold beforeB;rw [show fIx (fun v=>decide (v.order=b)) l=oIx l b from rfl]
 by_cases h:oIx l b<0
 ·rw [if_pos h];exact ⟨fun _ h2=>by omega,fun _=>rfl⟩
 ·rw [if_neg h,Bool.and_eq_true,X0]
  have h0:0<=oIx l b:=by omega
  obtain ⟨h1,h2,h3⟩:=Jm h0
  have hd:(!hasO (l.drop (oIx l b).toNat) a)=true↔ ∀j,j<l.length->(nth l j).order=a->(j:Int)<oIx l b:=by
   rw [Bool.not_eq_true',<- Bool.not_eq_true,X0]
   constructor
   ·intro hno j hj e;rcases Int.lt_or_le (j:Int) (oIx l b) with h4 | h4
    ·exact h4
    ·refine absurd ⟨nth l j,?_,e⟩ hno;rw [Ze hj];exact List.mem_iff_getElem.2 ⟨j-(oIx l b).toNat,by simp;omega,by simp;congr 1;omega⟩
   ·rintro hall ⟨v,hv,e⟩;obtain ⟨j,hj,rfl⟩:=List.mem_iff_getElem.1 hv;simp at hj;rw [List.getElem_drop] at e;have:=hall ((oIx l b).toNat+j) (by omega) (by rw [Ze (by omega)];exact e);omega
  rw [hd];exact ⟨fun h _=>h,fun h=>h h0⟩
theorem ZeV {x:Inst} {l:List Vis} (hi:Inr x l) (hn:x.orders.length<=60) {p:Int×Int} (h1:0<=p.1/\p.1<x.orders.length) (h2:0<=p.2/\p.2<x.orders.length) (hne:p.1≠p.2):V4 (Yd l) l p=beforeB l p.1 p.2:=by
 rw [Bool.eq_iff_iff,Wd,V4,Yi hi hn _ (by omega),Yi hi hn _ (by omega)];simp only [Bool.or_eq_true,Bool.not_eq_true',Bool.and_eq_true];rw [<- Bool.not_eq_true,X0,X0,<- UH,<- UH (b:=p.1)]
 constructor
 ·rintro (h | ⟨h3,h4⟩) h0
  ·exact absurd h0 h
  ·refine ⟨h3,fun j hj e=> ?_⟩;rw [List.all_eq_true] at h4;have h5:=h4 j (by simpa using hj);rw [List.all_eq_true] at h5;obtain ⟨g1,g2,g3⟩:=Jm h0;rcases Int.lt_or_le (j:Int) (oIx l p.2) with h6 | h6
   ·exact h6
   ·have hne2:j≠(oIx l p.2).toNat:=fun e2=>hne (by rw [<- e,e2];exact g2);have:=h5 (oIx l p.2).toNat (by simp;omega);simp [U9,e,g2] at this
 ·intro h
  by_cases h0:0<=oIx l p.2
  ·obtain ⟨h3,h4⟩:=h h0;refine .inr ⟨h3,?_⟩;rw [List.all_eq_true];intro j hj;rw [List.all_eq_true];intro k hk;simp at hj hk
   cases hb:U9 l p.1 p.2 j k with
   | false=>rfl
   | true =>
    simp [U9] at hb;have h5:=h4 j hj hb.1;have h6:=(Zqk (by omega) hb.2).2;omega
  ·exact .inl h0
theorem ZnP {x:Inst} (hf:IFacts x) (l:List Vis):Zme x l=ZR x l:=by
 by_cases ho:l.any (VL x)=true
 ·rw [Zme,if_pos ho,ZR,if_pos (.inr ho)]
 ·have ho':l.any (VL x)=false:=by simpa using ho
  have hi:Inr x l:=fun v hv=>by
   rw [List.any_eq_false] at ho';simpa [VL] using ho' v hv
  have hn:x.orders.length<=60:=by have:=hf.len;omega
  rw [Zme,if_neg ho,ZR]
  by_cases h0:l.length=0
  ·rw [if_pos h0,if_pos (.inl h0)]
  ·have hc: ¬(l.length=0\/l.any (VL x)=true):=fun h=>h.elim h0 ho;rw [if_neg h0,if_neg hc,Zhz]
   have e1:apB x (Yd l)=x.apart.any fun p=>hasO l p.1&&hasO l p.2:=by
    rw [apB,Bool.eq_iff_iff,List.any_eq_true,List.any_eq_true]
    have: ∀p∈x.apart,(nHas (Yd l) p.1&&nHas (Yd l) p.2)=(hasO l p.1&&hasO l p.2):=fun p hp=>by
     have:=hf.aval p hp;rw [Yi hi hn _ (by omega),Yi hi hn _ (by omega)]
    exact ⟨fun ⟨p,hp,h⟩=>⟨p,hp,by rw [<- this p hp];exact h⟩,fun ⟨p,hp,h⟩=>⟨p,hp,by rw [this p hp];exact h⟩⟩
   have e2:(x.before.all (V4 (Yd l) l)=false)=((x.before.any fun p=> !beforeB l p.1 p.2)=true):=by
    have: ∀p∈x.before,V4 (Yd l) l p=beforeB l p.1 p.2:=fun p hp=>by
     have:=hf.val p hp;exact ZeV hi hn (by omega) (by omega) (hf.ne p hp)
    rw [List.all_eq_false,List.any_eq_true];simp only [eq_iff_iff];exact ⟨fun ⟨p,hp,h⟩=>⟨p,hp,by rw [<- this p hp];simpa using h⟩,fun ⟨p,hp,h⟩=>⟨p,hp,by rw [this p hp];simpa using h⟩⟩
   rw [e1];simp only [e2]
structure RightV (x:Inst) (l:List Vis):Prop where
 ne:l≠ []
 inr:Inr x l
 off: ∀v∈l,(nth x.orders v.order.toNat).off=false
 nodup:l.Nodup
 pair: ∀v∈l,pairB x.orders l v=true
 apart: ∀p∈x.apart,¬(hasO l p.1=true/\hasO l p.2=true)
 before: ∀p∈x.before,beforeB l p.1 p.2=true
theorem ZhG {x:Inst} {l:List Vis} :ZR x l=0↔RightV x l:=by
 unfold ZR;rw [Yq (by omega),Yq (by omega),Yq (by omega),Yq (by omega),Yq (by omega),Yq (by omega)];simp only [and_true,Bool.not_eq_true,Uv]
 have hin:l.any (VL x)=false↔Inr x l:=by
  rw [List.any_eq_false];exact ⟨fun h v hv=>by simpa [VL] using h v hv,fun h v hv=>by simpa [VL] using h v hv⟩
 constructor
 ·rintro ⟨h1,h2,h3,h4,h5,h6⟩;rw [not_or,Bool.not_eq_true,hin] at h1;rw [List.any_eq_false] at h2 h5 h6;refine ⟨fun e=>h1.1 (by rw [e];rfl),h1.2,fun v hv=>by simpa using h2 v hv,h3,?_,fun p hp=>by simpa using h5 p hp,fun p hp=>by simpa using h6 p hp⟩
  have:l.all (pairB x.orders l)=true:=by simpa using h4
  exact List.all_eq_true.1 this
 ·intro h;refine ⟨?_,?_,h.nodup,?_,?_,?_⟩
  ·rw [not_or,Bool.not_eq_true,hin];exact ⟨fun e=>h.ne (List.eq_nil_of_length_eq_zero e),h.inr⟩
  ·rw [List.any_eq_false];intro v hv;simp [h.off v hv]
  ·rw [List.all_eq_true.2 h.pair];simp
  ·rw [List.any_eq_false];intro p hp;simpa using h.apart p hp
  ·rw [List.any_eq_false];intro p hp;simpa using h.before p hp
theorem ZgH {os:List Ord} {l:List Vis} {v:Vis} {i:Nat} (h:v.order=(i:Int)):pairB os l v=true↔v∈ZV os i/\(∀w∈ZV os i,w∈l)/\((⟨i,false⟩:Vis)∈ZV os i->(⟨i,true⟩:Vis)∈ZV os i->vIx l ⟨i,false⟩<vIx l ⟨i,true⟩):=by
 rw [pairB,h,Int.toNat_natCast,Bool.and_eq_true,decide_eq_true_eq,Xp];refine and_congr Iff.rfl ?_
 have hm: ∀w:Vis,-1<vIx l w↔w∈l:=fun w=>by rw [<- Xp];omega
 rcases W2 os i with e | e | e | e<;>rw [e]
 ·simp [JF]
 ·simp [JF,hm]
 ·simp [JF,hm]
 ·simp only [JF,Bool.and_true,Bool.and_eq_true,decide_eq_true_eq,hm,List.mem_cons,List.not_mem_nil,or_false,forall_eq_or_imp,forall_eq]
  constructor
  ·rintro ⟨h1,h2⟩;exact ⟨⟨h1,Xp.1 (by have:=Xp.2 h1;omega)⟩,fun _ _=>h2⟩
  ·rintro ⟨⟨h1,_⟩,h2⟩;exact ⟨h1,h2 (by simp) (by simp)⟩
section
variable {x : Inst} {l : List Vis}
theorem RightV.bit (h:RightV x l) (i:Nat):(Yd l).testBit i=true↔ ∃v∈l,v.order=(i:Int):=by
 rw [QA];exact ⟨fun ⟨v,hv,e⟩=>⟨v,hv,by have:=h.inr v hv;omega⟩,fun ⟨v,hv,e⟩=>⟨v,hv,by omega⟩⟩
theorem RightV.lt (h:RightV x l) (hf:IFacts x):Yd l<9223372036854775808/\Yd l / pw x.orders.length=0:=by
 have h1:Yd l<9223372036854775808:=by
  have:=UK l.length (l:=l) (Nat.le_refl _) (fun v hv=>by
   rw [List.take_length] at hv;have:=h.inr v hv;have:=hf.len
   simp [inS];omega)
  rwa [List.take_length] at this
 refine ⟨h1,Ziv h1 fun j _ hj=> ?_⟩;obtain ⟨v,hv,e⟩:=(h.bit j).1 hj;have:=h.inr v hv;omega
theorem RightV.ord (h:RightV x l) (hf:IFacts x):JH l=(((Yd l:Nat):Int),0):=by
 rw [JH,if_pos];rw [List.all_eq_true];intro v hv;have:=h.inr v hv;have:=hf.len;simp [inS];omega
theorem RightV.step (h:RightV x l) {a b:Nat} (hE:Ed x.before a b) (hb:0<=oIx l b):0<=oIx l a/\oIx l a<oIx l b:=by
 obtain ⟨p,hp,e1,e2⟩:=hE;have hbe:=Wd.1 (h.before p hp);rw [e1,e2] at hbe;obtain ⟨h1,h2⟩:=hbe hb;have h0:=UH.2 h1;obtain ⟨g1,g2,_⟩:=Jm h0;have:=h2 _ g1 g2;exact ⟨h0,by omega⟩
theorem RightV.chain (h:RightV x l) {a b:Nat} (hc:Ch x.before a b) (hb:0<=oIx l b):0<=oIx l a/\oIx l a<oIx l b:=by
 induction hc with
 | one hE=>exact h.step hE hb
 | more _ hE ih =>
  have h1:=h.step hE hb;have h2:=ih h1.1;exact ⟨h2.1,by omega⟩
theorem RightV.alw (h:RightV x l) (hf:IFacts x):Alw x (Yd l):=by
 have hn:x.orders.length<=60:=by have:=hf.len;omega
 refine ⟨fun i hi hb=> ?_,?_,fun p hp hb=> ?_,fun i hi hb hc=> ?_⟩
 ·obtain ⟨v,hv,e⟩:=(h.bit i).1 hb;have:=h.off v hv;rwa [e,Int.toNat_natCast] at this
 ·rw [apB,List.any_eq_false];intro p hp;have hv:=hf.aval p hp;rw [Yi h.inr hn _ (by omega),Yi h.inr hn _ (by omega),Bool.and_eq_true];exact h.apart p hp
 ·have hv:=hf.val p hp;rw [Yi h.inr hn _ (by omega)] at hb ⊢;rw [X0] at hb ⊢;exact (Wd.1 (h.before p hp) (UH.2 hb)).1
 ·have hb2:=UH.2 ((h.bit i).1 hb);have:=(h.chain hc hb2).2;omega
theorem Gr.at {S:Nat} (h:Gr x S l): ∀k,k<l.length->nth l k∈nextU x S (l.take k) x.orders.length:=by
 induction h with
 | nil=>simp
 | snoc h hv ih =>
  rename_i l v;intro k hk;simp at hk;rcases Nat.lt_or_ge k l.length with h2 | h2
  ·have e1:nth (l++ [v]) k=nth l k:=by rw [Ze (by simp;omega),Ze h2,List.getElem_append_left h2]
   rw [e1,List.take_append_of_le_length (by omega)];exact ih k h2
  ·have:k=l.length:=by omega
   subst this
   have e1:nth (l++ [v]) l.length=v:=by rw [Ze (by simp)];simp
   rw [e1,List.take_append_of_le_length (Nat.le_refl _),List.take_length];exact hv
theorem Gr.right {S:Nat} (h:Gr x S l) (hf:IFacts x) (ha:Alw x S) (h0:S≠0) (hS:S / pw x.orders.length=0) (hl:l.length=Zau x S x.orders.length):RightV x l/\Yd l=S:=by
 have hn:x.orders.length<=60:=by have:=hf.len;omega
 have hfull:=h.full hl
 have hsub: ∀v∈l,∃i:Nat,v.order=(i:Int)/\i<x.orders.length/\S.testBit i=true/\v∈ZV x.orders i:=fun v hv=>by
  obtain ⟨i,i1,i2,i3⟩:=X4.1 (h.sub v hv);exact ⟨i,Z7 i3,i1,i2,i3⟩
 have hinr:Inr x l:=fun v hv=>by obtain ⟨i,e,i1,_,_⟩:=hsub v hv;omega
 have hgo: ∀k,k<l.length-> ∃i:Nat,(nth l k).order=(i:Int)/\nth l k∈ZV x.orders i/\nth l k ∉ l.take k/\((nth l k).drp=true->(⟨i,false⟩:Vis)∈ZV x.orders i->(⟨i,false⟩:Vis)∈l.take k)/\ ∀p∈x.before,p.2=(i:Int)-> ∀w∈ZV x.orders p.1.toNat,w∈l.take k:=fun k hk=>by
  obtain ⟨i,i1,i2,i3,i4,i5⟩:=YC.1 (h.at k hk);obtain ⟨r1,r2,r3⟩:=(Yl i4).1 i5;exact ⟨i,Z7 i4,i4,r1,r2,r3⟩
 have hbit:Yd l=S:=Nat.eq_of_testBit_eq fun i=>by
  rw [Bool.eq_iff_iff,QA]
  constructor
  ·rintro ⟨v,hv,e⟩;obtain ⟨j,j1,j2,j3,j4⟩:=hsub v hv
   have:i=j:=by omega
   rw [this];exact j3
  ·intro hb;have hi:=Zix hS hb;obtain ⟨w,hw⟩:=List.exists_mem_of_ne_nil _ (hf.vne i hi);have:=Z7 hw;exact ⟨w,hfull w (X4.2 ⟨i,hi,hb,hw⟩),by omega⟩
 refine ⟨⟨fun e=> ?_,hinr,fun v hv=> ?_,h.nodup,fun v hv=> ?_,fun p hp=> ?_,fun p hp=> ?_⟩,hbit⟩
 ·have:=ZiJ hf.vne hS h0;rw [e] at hl;simp at hl;omega
 ·obtain ⟨i,i1,i2,i3,i4⟩:=hsub v hv;rw [i1,Int.toNat_natCast];exact ha.off i i2 i3
 ·obtain ⟨i,i1,i2,i3,i4⟩:=hsub v hv;refine (ZgH i1).2 ⟨i4,fun w hw=>hfull w (X4.2 ⟨i,i2,i3,hw⟩),fun hq1 hq2=> ?_⟩;have m2:=Xp.2 (hfull _ (X4.2 ⟨i,i2,i3,hq2⟩));obtain ⟨g1,g2⟩:=Zgz m2;obtain ⟨j,j1,j2,j3,j4,j5⟩:=hgo _ g1;rw [g2] at j1 j4
  have:j=i:=by simp at j1;omega
  subst this;obtain ⟨q,q1,q2,q3⟩:=WT (j4 rfl hq1);have:=(ZlM q2).2;rw [q3] at this;omega
 ·have:=ha.apart;rw [apB,List.any_eq_false] at this;have h2:=this p hp;have hv:=hf.aval p hp;rw [<- hbit,Yi hinr hn _ (by omega),Yi hinr hn _ (by omega),Bool.and_eq_true] at h2;exact h2
 ·rw [Wd];intro hb;have hv:=hf.val p hp;obtain ⟨g1,g2,g3⟩:=Jm hb;obtain ⟨j,j1,j2,j3,j4,j5⟩:=hgo _ g1;have hall:=j5 p hp (by rw [<- g2,j1]);refine ⟨?_,fun q hq e=> ?_⟩
  ·obtain ⟨w,hw⟩:=List.exists_mem_of_ne_nil _ (hf.vne p.1.toNat (by omega));exact ⟨w,List.mem_of_mem_take (hall w hw),by rw [Z7 hw];omega⟩
  ·obtain ⟨i,i1,i2,i3,i4⟩:=hsub _ (Zp hq)
   have:i=p.1.toNat:=by omega
   subst this;obtain ⟨q2,r1,r2,r3⟩:=WT (hall _ i4);have e1:=U0 h.nodup r2;have e2:=U0 h.nodup hq;rw [r3] at e1;omega
end
section
variable {σ : Type}
def lvR (nx:List Vis->List Vis):Nat->List Vis->List (List Vis)
 | 0,l=> [l]
 | f+1,l=>if nx l= [] then [l] else (nx l).flatMap fun v=>lvR nx f (l++ [v])
def lvW (nx:List Vis->List Vis) (go:σ->Vis->σ) (emp:σ->Bool):Nat->List Vis->σ->List (List Vis)
 | 0,l,_=> [l]
 | f+1,l,s=>(nx l).flatMap fun v=>if emp (go s v)=true then [] else lvW nx go emp f (l++ [v]) (go s v)
theorem Ziw {nx:List Vis->List Vis} : ∀(f:Nat) (l m:List Vis),m∈lvR nx f l-> ∃r,m=l++r
 | 0,l,m,h=>by simp only [lvR,List.mem_cons,List.not_mem_nil,or_false] at h;exact ⟨[],by simp [h]⟩
 | f+1,l,m,h=>by
  rw [lvR] at h
  split at h
  ·simp only [List.mem_cons,List.not_mem_nil,or_false] at h;exact ⟨[],by simp [h]⟩
  ·obtain ⟨v,_,h⟩:=List.mem_flatMap.1 h;obtain ⟨r,rfl⟩:=Ziw f _ m h;exact ⟨v::r,by simp⟩
theorem Yo {α β:Type} {p:β->Bool} {g:α->List β} : ∀l:List α,(l.flatMap g).filter p=l.flatMap fun a=>(g a).filter p
 | []=>rfl
 | a::l=>by rw [List.flatMap_cons,List.flatMap_cons,List.filter_append,Yo l]
theorem UQ {α β:Type} {g h:α->List β} : ∀ {l:List α},(∀a∈l,g a=h a)->l.flatMap g=l.flatMap h
 | [],_=>rfl
 | a::l,e=>by rw [List.flatMap_cons,List.flatMap_cons,e a (by simp),UQ fun b hb=>e b (List.mem_cons_of_mem _ hb)]
theorem Zuf {nx:List Vis->List Vis} {go:σ->Vis->σ} {emp:σ->Bool} {ok:List Vis->Bool} {G:List Vis->Prop} {R:List Vis->σ->Prop} {tot:Nat}
  (hG: ∀l v,G l->v∈nx l->G (l++ [v])) (hR: ∀l s v,G l->R l s->v∈nx l->R (l++ [v]) (go s v)) (hE: ∀l s,G l->R l s->emp s=true-> ∀r,ok (l++r)=false)
  (hN: ∀l,G l->l.length<tot->nx l≠ []): ∀(f:Nat) (l:List Vis) (s:σ),G l->R l s->l.length+f=tot->(lvR nx f l).filter ok=(lvW nx go emp f l s).filter ok
 | 0,l,s,_,_,_=>rfl
 | f+1,l,s,hl,hs,ht=>by
  rw [lvR,lvW,if_neg (hN l hl (by omega)),Yo,Yo];refine UQ fun v hv=> ?_;have h1:=hG l v hl hv;have h2:=hR l s v hl hs hv
  split
  ·rename_i he;rw [List.filter_nil,List.filter_eq_nil_iff];intro m hm;obtain ⟨r,rfl⟩:=Ziw f _ m hm;rw [hE _ _ h1 h2 he r];simp
  ·exact Zuf hG hR hE hN f _ _ h1 h2 (by simp;omega)
def X1 (ok:List Vis->Bool) (col:List Vis->Col) (better:Col->Col->Bool) (b:Col×Bool) (l:List Vis):Col×Bool:=if ok l=true/\(b.2=false\/better (col l) b.1=true) then (col l,true) else b
theorem Wi {ok:List Vis->Bool} {col:List Vis->Col} {better:Col->Col->Bool} : ∀(L:List (List Vis)) (b:Col×Bool),L.foldl (X1 ok col better) b=(L.filter ok).foldl (X1 ok col better) b
 | [],b=>rfl
 | l::L,b=>by
  rw [List.foldl_cons,List.filter_cons]
  split
  ·rw [List.foldl_cons];exact Wi L _
  ·rename_i h;rw [X1,if_neg (fun g=>h g.1)];exact Wi L b
theorem Ki {ok:List Vis->Bool} {col:List Vis->Col} {better:Col->Col->Bool} : ∀(L:List (List Vis)) (c c':Col),(L.foldl (X1 ok col better) (c,false)).2=(L.foldl (X1 ok col better) (c',false)).2/\((L.foldl (X1 ok col better) (c,false)).2=true->(L.foldl (X1 ok col better) (c,false)).1=(L.foldl (X1 ok col better) (c',false)).1)
 | [],c,c'=>⟨rfl,fun h=>by cases h⟩
 | l::L,c,c'=>by
  rw [List.foldl_cons,List.foldl_cons]
  by_cases h:ok l=true
  ·rw [X1,if_pos ⟨h,.inl rfl⟩,X1,if_pos ⟨h,.inl rfl⟩];exact ⟨rfl,fun _=>rfl⟩
  ·rw [X1,if_neg (fun g=>h g.1),X1,if_neg (fun g=>h g.1)];exact Ki L c c'
end
end Go.Proofs.YthmplgaldjpgiaaGreatDoor.K
set_option linter.unusedVariables false
set_option linter.unusedSimpArgs false
namespace Go.Proofs.YthmplgaldjpgiaaGreatDoor.K
section
variable {L : Type} (fin : L -> Int) (beats : L -> L -> Bool) (nxt : Nat -> L -> Bool -> Option L) (choices : Nat -> List Bool)
def fmL : Option L->List L->Option L
 | b,[]=>b
 | none,x::l=>fmL (some x) l
 | some m,x::l=>if fin x<fin m then fmL (some x) l else fmL (some m) l
theorem UO : ∀(b:Option L) (l r:List L),fmL fin b (l++r)=fmL fin (fmL fin b l) r
 | b,[],r=>by cases b<;>simp [fmL]
 | none,x::l,r=>by rw [List.cons_append,fmL,fmL,UO]
 | some m,x::l,r=>by
  rw [List.cons_append,fmL,fmL]
  split
  ·rw [UO]
  ·rw [UO]
theorem V6 : ∀(l:List L) (m:L),∃z,fmL fin (some m) l=some z/\fin z<=fin m/\ ∀y∈l,fin z<=fin y
 | [],m=>⟨m,rfl,by omega,by simp⟩
 | x::l,m=>by
  rw [fmL]
  split
  ·rename_i h;obtain ⟨z,e,h1,h2⟩:=V6 l x;refine ⟨z,e,by omega,fun y hy=> ?_⟩;rcases List.mem_cons.1 hy with rfl | hy
   ·exact h1
   ·exact h2 y hy
  ·rename_i h;obtain ⟨z,e,h1,h2⟩:=V6 l m;refine ⟨z,e,h1,fun y hy=> ?_⟩;rcases List.mem_cons.1 hy with rfl | hy
   ·omega
   ·exact h2 y hy
theorem ZeO : ∀(l:List L) (m:L),(∀y∈l,fin m<=fin y)->fmL fin (some m) l=some m
 | [],m,_=>rfl
 | x::l,m,h=>by
  have:=h x List.mem_cons_self;rw [fmL,if_neg (by omega)];exact ZeO l m fun y hy=>h y (List.mem_cons_of_mem _ hy)
theorem ZiT (A B:List L) (h: ∀y∈B,∃z∈A,fin z<=fin y):fmL fin none (A++B)=fmL fin none A:=by
 rw [UO]
 cases A with
 | nil=>cases B with
  | nil=>rfl
  | cons y B=>obtain ⟨z,hz,_⟩:=h y List.mem_cons_self;simp at hz
 | cons a A =>
  rw [fmL];obtain ⟨z,e,h1,h2⟩:=V6 fin A a;rw [e];refine ZeO fin B z fun y hy=> ?_;obtain ⟨q,hq,hle⟩:=h y hy;rcases List.mem_cons.1 hq with rfl | hq
  ·omega
  ·have:=h2 q hq;omega
def Z9 : List L->List L->List L
 | out,[]=>out
 | out,x::l=>if out.any (fun m=>beats m x)=true then Z9 out l else Z9 (out++ [x]) l
theorem QU {R:L->List L} : ∀(c out:List L),(∀x∈out++c,∀m∈out++c,beats m x=true-> ∀y∈R x,∃z∈R m,fin z<=fin y)->fmL fin none ((Z9 beats out c).flatMap R)=fmL fin none ((out++c).flatMap R)
 | [],out,_=>by simp [Z9]
 | x::c,out,h=>by
  rw [Z9]
  split
  ·rename_i hb;obtain ⟨m,hm,hb⟩:=List.any_eq_true.1 hb
   have hb:beats m x=true:=by simpa using hb
   rw [QU c out (fun a ha b hb=>h a (by simp only [List.mem_append,List.mem_cons] at ha ⊢;rcases ha with h | h<;>simp [h]) b (by simp only [List.mem_append,List.mem_cons] at hb ⊢;rcases hb with h | h<;>simp [h]))];rw [List.flatMap_append,List.flatMap_append,List.flatMap_cons,<- List.append_assoc,UO,UO (l:=out.flatMap R++R x)];rw [ZiT fin (out.flatMap R) (R x)];intro y hy;obtain ⟨z,hz,hle⟩:=h x (by simp) m (by simp [hm]) hb y hy;exact ⟨z,List.mem_flatMap.2 ⟨m,hm,hz⟩,hle⟩
  ·rw [QU c (out++ [x]) (by simpa using h)];simp
theorem VQ : ∀(c out:List L),∀x∈Z9 beats out c,x∈out++c
 | [],out,x,h=>by simpa [Z9] using h
 | a::c,out,x,h=>by
  rw [Z9] at h
  split at h
  ·have:=VQ c out x h;simp only [List.mem_append,List.mem_cons] at this ⊢;rcases this with h | h<;>simp [h]
  ·have:=VQ c (out++ [a]) x h;simpa using this
def Zjl : Nat->Nat->List (List Bool)
 | 0,_=> [[]]
 | j+1,k=>(choices k).flatMap fun b=>(Zjl j (k+1)).map (b:: ·)
def Uw : Nat->L->List Bool->Option L
 | _,x,[]=>some x
 | k,x,b::bs=>match nxt k x b with
  | some y=>Uw (k+1) y bs
  | none=>none
def YM (j k:Nat) (x:L):List L:=(Zjl choices j k).filterMap (Uw nxt k x)
def Y4 (k:Nat) (l:List L):List L:=l.flatMap fun x=>(choices k).filterMap (nxt k x)
def U8 : Nat->Nat->List L->List L
 | 0,_,l=>l
 | j+1,k,l=>U8 j (k+1) (Z9 beats [] (Y4 nxt choices k l))
theorem JT (k:Nat) (x:L):YM nxt choices 0 k x= [x]:=rfl
theorem J8 (j k:Nat) (x:L):YM nxt choices (j+1) k x=((choices k).filterMap (nxt k x)).flatMap (YM nxt choices j (k+1)):=by
 unfold YM;rw [Zjl]
 induction choices k with
 | nil=>rfl
 | cons b bs ih =>
  rw [List.flatMap_cons,List.filterMap_append,ih,List.filterMap_cons]
  cases h:nxt k x b with
  | none =>
   rw [List.filterMap_map]
   have:(Uw nxt k x∘fun l=>b::l)=fun _=>none:=by funext l;simp [Uw,h]
   rw [this];simp
  | some y =>
   rw [List.filterMap_map]
   have:(Uw nxt k x∘fun l=>b::l)=Uw nxt (k+1) y:=by funext l;simp [Uw,h]
   rw [this];rfl
theorem ZbZ {n:Nat} {Inv:Nat->L->Prop} (hI: ∀k x b y,Inv k x->nxt k x b=some y->Inv (k+1) y) (hd: ∀k m x b y,Inv k m->Inv k x->beats m x=true->nxt k x b=some y-> ∃z,nxt k m b=some z/\beats z y=true)
  (he: ∀m x,Inv n m->Inv n x->beats m x=true->fin m<=fin x): ∀(j k:Nat) (m x:L),k+j=n->Inv k m->Inv k x->beats m x=true-> ∀y∈YM nxt choices j k x,∃z∈YM nxt choices j k m,fin z<=fin y
 | 0,k,m,x,hk,h1,h2,hb,y,hy=>by
  rw [JT] at hy ⊢;simp at hy;subst hy
  have hk:k=n:=by omega
  subst hk;exact ⟨m,by simp,he m y h1 h2 hb⟩
 | j+1,k,m,x,hk,h1,h2,hb,y,hy=>by
  rw [J8] at hy ⊢;obtain ⟨q,hq,hy⟩:=List.mem_flatMap.1 hy;obtain ⟨b,hbm,hn⟩:=List.mem_filterMap.1 hq;obtain ⟨z,hz,hzb⟩:=hd k m x b q h1 h2 hb hn;obtain ⟨u,hu,hle⟩:=ZbZ hI hd he j (k+1) z q (by omega) (hI k m b z h1 hz) (hI k x b q h2 hn) hzb y hy;exact ⟨u,List.mem_flatMap.2 ⟨z,List.mem_filterMap.2 ⟨b,hbm,hz⟩,hu⟩,hle⟩
theorem ZiW {n:Nat} {Inv:Nat->L->Prop} (hI: ∀k x b y,Inv k x->nxt k x b=some y->Inv (k+1) y) (hd: ∀k m x b y,Inv k m->Inv k x->beats m x=true->nxt k x b=some y-> ∃z,nxt k m b=some z/\beats z y=true)
  (he: ∀m x,Inv n m->Inv n x->beats m x=true->fin m<=fin x): ∀(j k:Nat) (l:List L),k+j=n->(∀x∈l,Inv k x)->fmL fin none (U8 beats nxt choices j k l)=fmL fin none (l.flatMap (YM nxt choices j k))
 | 0,k,l,hk,hl=>by
  have:l.flatMap (YM nxt choices 0 k)=l:=by
   have:YM nxt choices 0 k=fun x=> [x]:=by funext x;exact JT nxt choices k x
   rw [this];simp
  rw [this];rfl
 | j+1,k,l,hk,hl=>by
  have hc: ∀x∈Y4 nxt choices k l,Inv (k+1) x:=fun x hx=>by
   obtain ⟨q,hq,hx⟩:=List.mem_flatMap.1 hx;obtain ⟨b,_,hn⟩:=List.mem_filterMap.1 hx;exact hI k q b x (hl q hq) hn
  have e:l.flatMap (YM nxt choices (j+1) k)=(Y4 nxt choices k l).flatMap (YM nxt choices j (k+1)):=by
   rw [Y4,List.flatMap_assoc]
   congr 1
   funext x
   exact J8 nxt choices j k x
  rw [U8,ZiW hI hd he j (k+1) _ (by omega) (fun x hx=>hc x (by simpa using VQ beats _ _ x hx)),QU fin beats _ _ (fun x hx m hm hb y hy=> ?_),e]
  ·simp
  ·exact ZbZ fin beats nxt choices hI hd he j (k+1) m x (by omega) (hc m (by simpa using hm)) (hc x (by simpa using hx)) hb y hy
def Yg : List Bool->List (List Bool)
 | []=> [[]]
 | b::bs=>if b then (Yg bs).map (true:: ·) else (Yg bs).map (false:: ·)++(Yg (List.replicate bs.length false)).map (true:: ·)
termination_by l => l.length
decreasing_by all_goals simp
def Xz : List Bool->Option (List Bool)
 | []=>none
 | b::bs=>match Xz bs with
  | some l=>some (b::l)
  | none=>if b then none else some (true::List.replicate bs.length false)
theorem fromB_next : ∀l:List Bool,Yg l=l::(match Xz l with | some r=>Yg r | none=> [])
 | []=>by simp [Yg,Xz]
 | b::bs=>by
  have ih:=fromB_next bs
  have e0: ∀l:List Bool,Yg (true::l)=(Yg l).map (true:: ·):=fun l=>by rw [Yg];simp
  have e1: ∀l:List Bool,Yg (false::l)=(Yg l).map (false:: ·)++(Yg (List.replicate l.length false)).map (true:: ·):=fun l=>by rw [Yg];simp
  cases b with
  | true =>
   rw [e0,ih,Xz]
   cases h:Xz bs with
   | none=>simp
   | some r=>simp [e0]
  | false =>
   rw [e1,ih,Xz]
   cases h:Xz bs with
   | none=>simp [e0]
   | some r =>
    have hl:r.length=bs.length:=nlen bs r h;simp [e1,hl]
where nlen : ∀(l r:List Bool),Xz l=some r->r.length=l.length
 | [],r,h=>by simp [Xz] at h
 | b::bs,r,h=>by
  rw [Xz] at h
  cases h2:Xz bs with
  | none =>
   rw [h2] at h
   cases b<;>simp at h
   subst h;simp
  | some q =>
   rw [h2] at h;simp at h;subst h;simp [nlen bs q h2]
theorem ZeG {n:Nat} : ∀(j k:Nat),(∀q,k<=q->choices q= [false,true])->Zjl choices j k=Yg (List.replicate j false)
 | 0,k,_=>by simp [Zjl,Yg]
 | j+1,k,h=>by
  rw [Zjl,h k (Nat.le_refl _),ZeG (n:=n) j (k+1) (fun q hq=>h q (by omega)),List.replicate_succ,Yg];simp
end
end Go.Proofs.YthmplgaldjpgiaaGreatDoor.K
set_option linter.unusedVariables false
set_option linter.unusedSimpArgs false
namespace Go.Proofs.YthmplgaldjpgiaaGreatDoor.K
open Go Go.AM Go.Proofs
def onB (x:Inst) (l:List Vis) (n i:Nat):Bool:=(l.take n).foldl (fun on v=>if v.order=(i:Int) then !v.drp else on) (decide ((nth x.orders i).pick.place<0))
theorem ZlA {x:Inst} {l:List Vis} {i:Nat} :onB x l 0 i=decide ((nth x.orders i).pick.place<0):=by simp [onB]
theorem Zac {x:Inst} {l:List Vis} {n i:Nat} (h:n<l.length):onB x l (n+1) i=if (nth l n).order=(i:Int) then !(nth l n).drp else onB x l n i:=by
 rw [onB,List.take_succ_eq_append_getElem h,List.foldl_append,Ze h];rfl
structure SqOk (x:Inst) (l:List Vis):Prop where
 ne:l≠ []
 inr:Inr x l
 nd:l.Nodup
 pair: ∀v∈l,pairB x.orders l v=true
theorem Wz {x:Inst} {l:List Vis} (h:ZR x l=0):SqOk x l:=by
 unfold ZR at h
 split at h
 ·simp at h
 ·rename_i h1
  split at h
  ·simp at h
  ·split at h
   ·simp at h
   ·rename_i h3
    split at h
    ·simp at h
    ·rename_i h4;refine ⟨fun e=>h1 (.inl (by simp [e])),fun v hv=> ?_,Uv.1 (by simpa using h3),fun v hv=> ?_⟩
     ·have h5: ¬(l.any (VL x))=true:=fun e=>h1 (.inr e)
      have h6:VL x v=false:=by
       cases hb:VL x v with
       | false=>rfl
       | true=>exact absurd (List.any_eq_true.2 ⟨v,hv,hb⟩) h5
      simpa [VL] using h6
     ·have h5:l.all (pairB x.orders l)=true:=by simpa using h4
      exact List.all_eq_true.1 h5 v hv
structure OwnV (x:Inst) (l:List Vis) (i:Nat):Prop where
 pick:0<=(nth x.orders i).pick.place->(⟨i,false⟩:Vis)∈l
 drp:0<=(nth x.orders i).drp.place->(⟨i,true⟩:Vis)∈l
 both:0<=(nth x.orders i).pick.place->0<=(nth x.orders i).drp.place->vIx l ⟨i,false⟩<vIx l ⟨i,true⟩
 isP:(⟨i,false⟩:Vis)∈l->0<=(nth x.orders i).pick.place
 isD:(⟨i,true⟩:Vis)∈l->0<=(nth x.orders i).drp.place
theorem SqOk.own {x:Inst} {l:List Vis} (h:SqOk x l) {i:Nat} (hi: ∃v∈l,v.order=(i:Int)):OwnV x l i:=by
 obtain ⟨v0,hv0,ho⟩:=hi
 have key: ∀v∈l,v.order=(i:Int)->v∈ZV x.orders i/\JF l (-1) (ZV x.orders i)=true:=fun v hv hvo=>by
  have:=h.pair v hv;simp only [pairB,hvo,Int.toNat_natCast,Bool.and_eq_true,decide_eq_true_eq] at this;exact ⟨Xp.1 this.1,this.2⟩
 obtain ⟨_,hasc⟩:=key v0 hv0 ho;have mem: ∀b:Bool,(⟨i,b⟩:Vis)∈l->(⟨i,b⟩:Vis)∈ZV x.orders i:=fun b hb=>(key _ hb rfl).1
 have hp:(⟨i,false⟩:Vis)∈ZV x.orders i->0<=(nth x.orders i).pick.place:=fun hm=>by
  unfold ZV at hm;rcases List.mem_append.1 hm with hm | hm
  ·split at hm
   ·assumption
   ·simp at hm
  ·split at hm<;>simp at hm
 have hd:(⟨i,true⟩:Vis)∈ZV x.orders i->0<=(nth x.orders i).drp.place:=fun hm=>by
  unfold ZV at hm;rcases List.mem_append.1 hm with hm | hm
  ·split at hm<;>simp at hm
  ·split at hm
   ·assumption
   ·simp at hm
 have m1: ∀v,-1<vIx l v->v∈l:=fun v hv=>Xp.1 (by omega);unfold ZV at hasc
 by_cases c1:0<=(nth x.orders i).pick.place<;>by_cases c2:0<=(nth x.orders i).drp.place
 ·simp only [c1,c2,if_true,List.cons_append,List.nil_append,JF,Bool.and_true,Bool.and_eq_true,decide_eq_true_eq] at hasc;exact ⟨fun _=>m1 _ hasc.1,fun _=>m1 _ (by omega),fun _ _=>hasc.2,fun _=>c1,fun _=>c2⟩
 ·simp only [c1,c2,if_true,if_false,List.append_nil,JF,Bool.and_true,decide_eq_true_eq] at hasc;exact ⟨fun _=>m1 _ hasc,fun h=>absurd h c2,fun _ h=>absurd h c2,fun _=>c1,fun hm=>hd (mem _ hm)⟩
 ·simp only [c1,c2,if_true,if_false,List.nil_append,JF,Bool.and_true,decide_eq_true_eq] at hasc;exact ⟨fun h=>absurd h c1,fun _=>m1 _ hasc,fun h=>absurd h c1,fun hm=>hp (mem _ hm),fun _=>c2⟩
 ·exact ⟨fun h=>absurd h c1,fun h=>absurd h c2,fun h=>absurd h c1,fun hm=>hp (mem _ hm),fun hm=>hd (mem _ hm)⟩
theorem W1 {l:List Vis} (hn:l.Nodup) {v:Vis} {n:Nat} :v∈l.take n↔0<=vIx l v/\vIx l v<(n:Int):=by
 constructor
 ·intro h;obtain ⟨j,h1,h2,rfl⟩:=WT h;rw [U0 hn h2];omega
 ·intro ⟨h1,h2⟩;obtain ⟨h3,h4⟩:=Zgz h1;rw [<- h4];exact KM (by omega) h3
theorem Zmr {x:Inst} {l:List Vis} (h:SqOk x l) (i:Nat): ∀n,n<=l.length->onB x l n i=if (⟨i,true⟩:Vis)∈l.take n then false else if (⟨i,false⟩:Vis)∈l.take n then true else decide ((nth x.orders i).pick.place<0)
 | 0,_=>by simp [onB]
 | n+1,hn=>by
  have hk:n<l.length:=by omega
  have hat:=U0 h.nd hk;rw [Zac hk,Zmr h i n (by omega)]
  by_cases c:(nth l n).order=(i:Int)
  ·rw [if_pos c];have ho:=h.own (i:=i) ⟨nth l n,Zp hk,c⟩
   cases hd:(nth l n).drp with
   | true =>
    have hv:nth l n=⟨i,true⟩:=by rw [<- c,<- hd]
    rw [hv] at hat;have:(⟨i,true⟩:Vis)∈l.take (n+1):=(W1 h.nd).2 (by omega);rw [if_pos this];rfl
   | false =>
    have hv:nth l n=⟨i,false⟩:=by rw [<- c,<- hd]
    rw [hv] at hat;have h1:(⟨i,false⟩:Vis)∈l.take (n+1):=(W1 h.nd).2 (by omega)
    have h2: ¬(⟨i,true⟩:Vis)∈l.take (n+1):=fun hm=>by
     have h3:=List.mem_of_mem_take hm;have h4:=(W1 h.nd).1 hm;have h5:=ho.both (ho.isP (List.mem_of_mem_take h1)) (ho.isD h3);omega
    rw [if_neg h2,if_pos h1];rfl
  ·rw [if_neg c]
   have e: ∀b:Bool,((⟨i,b⟩:Vis)∈l.take (n+1))=((⟨i,b⟩:Vis)∈l.take n):=fun b=>by
    rw [List.take_succ_eq_append_getElem hk,List.mem_append,<- Ze hk];refine propext ⟨fun hm=>hm.resolve_right fun hm=> ?_,.inl⟩;simp at hm;exact c (by rw [<- hm])
   simp only [e]
theorem Zqw {x:Inst} {l:List Vis} (h:SqOk x l) {k i:Nat} (hk:k<l.length) (hi:(nth l k).order=(i:Int)):onB x l k i=(nth l k).drp:=by
 have hat:=U0 h.nd hk;have ho:=h.own (i:=i) ⟨nth l k,Zp hk,hi⟩;have hm:=Zp hk;rw [Zmr h i k (by omega)]
 cases hd:(nth l k).drp with
 | true =>
  have hv:nth l k=⟨i,true⟩:=by rw [<- hi,<- hd]
  rw [hv] at hat hm
  have h1: ¬(⟨i,true⟩:Vis)∈l.take k:=fun hm=>by have:=(W1 h.nd).1 hm;omega
  rw [if_neg h1]
  by_cases c:0<=(nth x.orders i).pick.place
  ·have h2:=ho.both c (ho.isD hm);have h3:(⟨i,false⟩:Vis)∈l.take k:=(W1 h.nd).2 ⟨Xp.2 (ho.pick c),by omega⟩;rw [if_pos h3]
  ·have:(nth x.orders i).pick.place<0:=by omega
   split<;>simp [this]
 | false =>
  have hv:nth l k=⟨i,false⟩:=by rw [<- hi,<- hd]
  rw [hv] at hat hm;have hp:=ho.isP hm
  have h1: ¬(⟨i,false⟩:Vis)∈l.take k:=fun hm=>by have:=(W1 h.nd).1 hm;omega
  have h2: ¬(nth x.orders i).pick.place<0:=by omega
  rw [if_neg h1]
  split<;>simp [h2]
theorem Znq {f g:Nat->Int} {i:Nat} (h: ∀q,q≠i->f q=g q): ∀n,i<n->((List.range n).map f).sum=((List.range n).map g).sum+(f i-g i):=by
 have same: ∀n,n<=i->((List.range n).map f).sum=((List.range n).map g).sum:=fun n hn=>by
  congr 1
  refine List.map_congr_left fun q hq=>h q ?_;have:=List.mem_range.1 hq;omega
 intro n
 induction n with
 | zero=>intro h;omega
 | succ n ih =>
  intro hi;simp only [List.range_succ,List.map_append,List.map_cons,List.map_nil,List.sum_append,List.sum_cons,List.sum_nil]
  by_cases hn:i=n
  ·subst hn;rw [same i (Nat.le_refl _)];omega
  ·rw [ih (by omega),h n (by omega)];omega
theorem Zgi {f:Nat->Int} {b:Int} (hb:0<=b) (h: ∀q,0<=f q/\f q<=b): ∀n:Nat,0<=((List.range n).map f).sum/\((List.range n).map f).sum<=b*n
 | 0=>by simp
 | n+1=>by
  have ih:=Zgi hb h n;have:=h n;simp only [List.range_succ,List.map_append,List.map_cons,List.map_nil,List.sum_append,List.sum_cons,List.sum_nil];rw [Int.natCast_add,Int.mul_add];omega
theorem W4 {p:Nat->Bool} {f:Nat->Int} : ∀l:List Nat,((l.filter p).map f).sum=(l.map fun i=>if p i=true then f i else 0).sum
 | []=>rfl
 | a::l=>by
  rw [List.filter_cons,List.map_cons,List.sum_cons]
  by_cases h:p a=true
  ·rw [if_pos h,List.map_cons,List.sum_cons,W4 l,if_pos h]
  ·rw [if_neg h,W4 l,if_neg h];omega
def ZfV (x:Inst) (l:List Vis) (n j:Nat):Int:=((List.range x.orders.length).map fun i=>if (onB x l n i&&hasO l i)=true then nth (nth x.orders i).load j else 0).sum
theorem ZaZ {x:Inst} {l:List Vis} (h:SqOk x l) {k j:Nat} (hk:k<l.length):ZfV x l (k+1) j=if (nth l k).drp=true then ZfV x l k j-nth (nth x.orders (nth l k).order.toNat).load j else ZfV x l k j+nth (nth x.orders (nth l k).order.toNat).load j:=by
 obtain ⟨v1,v2⟩:=h.inr _ (Zp hk);obtain ⟨i,hi⟩: ∃i:Nat,(nth l k).order=(i:Int):=⟨(nth l k).order.toNat,by omega⟩;have hh:hasO l (i:Int)=true:=X0.2 ⟨_,Zp hk,hi⟩;have h1:=Zqw h hk hi
 have h2:onB x l (k+1) i= !(nth l k).drp:=by rw [Zac hk,if_pos hi]
 unfold ZfV
 rw [Znq (f:=fun i=>if (onB x l (k+1) i&&hasO l i)=true then nth (nth x.orders i).load j else 0) (g:=fun i=>if (onB x l k i&&hasO l i)=true then nth (nth x.orders i).load j else 0) (i:=i) (fun q hq=>by
  have:onB x l (k+1) q=onB x l k q:=by rw [Zac hk,if_neg (by omega)]
  simp only [this]) x.orders.length (by omega)]
 rw [h1,h2,hh,hi,Int.toNat_natCast]
 cases (nth l k).drp
 ·simp
 ·simp;omega
def WL (x:Inst) (l:List Vis) (n:Nat):List Int:=(List.range (dimsOf x.types).toNat).map fun j=>ZfV x l n j
def ZhL (a b:List Int):List Int:=(List.range a.length).map fun j=>nth a j+nth b j
def Zy3 (a b:List Int):List Int:=(List.range a.length).map fun j=>nth a j-nth b j
theorem VU {x:Inst} {l:List Vis} {n:Nat} :(WL x l n).length=(dimsOf x.types).toNat:=by simp [WL]
theorem V7 {f:Nat->Int} {n j:Nat} (h:j<n):nth ((List.range n).map f) j=f j:=by
 rw [Ze (by simpa using h)];simp
theorem Zif {x:Inst} {l:List Vis} (h:SqOk x l) {k:Nat} (hk:k<l.length):WL x l (k+1)=if (nth l k).drp=true then Zy3 (WL x l k) (nth x.orders (nth l k).order.toNat).load else ZhL (WL x l k) (nth x.orders (nth l k).order.toNat).load:=by
 have key: ∀g:Nat->Int,(∀j,j<(dimsOf x.types).toNat->ZfV x l (k+1) j=g j)->WL x l (k+1)=(List.range (dimsOf x.types).toNat).map g:=fun g hg =>
  List.map_congr_left fun j hj=>hg j (List.mem_range.1 hj)
 split
 ·rename_i hd;unfold Zy3;rw [VU];refine key _ fun j hj=> ?_;rw [ZaZ h hk,if_pos hd,WL,V7 hj]
 ·rename_i hd;unfold ZhL;rw [VU];refine key _ fun j hj=> ?_;rw [ZaZ h hk,if_neg hd,WL,V7 hj]
def Zi7 (p:Pln):AM.Obj:= .cells [.p (.list p.routes_c (p.routes.map Wr)),.p (.list p.unserved_c (p.unserved.map eI))]
def Zi3 (r:Rte):Prop:=r.visits.length<=1048576/\r.rests.length<=1048576
set_option maxRecDepth 8000
set_option maxHeartbeats 8000000
def JO (l:List Pt) (t:Int) (i:Nat):Bool:=decide ((nth l i).t<=t)&&decide (t<(nth l (i+1)).t)
def Zmc (p q:Pt) (t:Int):Int:=p.a+((t-p.t)*(q.a-p.a)+q.t-p.t-1) / (q.t-p.t)
def Zb1 (l:List Pt) (t:Int):Int:=match (List.range (l.length-1)).find? (JO l t) with
 | some i=>Zmc (nth l i) (nth l (i+1)) t
 | none=>if (nth l 0).t<t then t+(nth l (l.length-1)).a-(nth l (l.length-1)).t else t+(nth l 0).a-(nth l 0).t
theorem Zco {l:List Pt} {t:Int} {i:Nat} (hi:i+1<l.length) (hno: ∀j,j<i->JO l t j=false) (h:JO l t i=true):Zb1 l t=Zmc (nth l i) (nth l (i+1)) t:=by
 have:(List.range (l.length-1)).find? (JO l t)=some i:=by
  rw [List.find?_eq_some_iff_getElem];refine ⟨h,i,by simp;omega,by simp,fun j hj=> ?_⟩;simp [hno j hj]
 rw [Zb1,this]
theorem Ky {l:List Pt} {t:Int} (hno: ∀j,j+1<l.length->JO l t j=false):Zb1 l t=if (nth l 0).t<t then t+(nth l (l.length-1)).a-(nth l (l.length-1)).t else t+(nth l 0).a-(nth l 0).t:=by
 have:(List.range (l.length-1)).find? (JO l t)=none:=by
  rw [List.find?_eq_none];intro j hj;simp at hj;rw [hno j (by omega)];simp
 rw [Zb1,this]
theorem Kv {p q:Pt} {t:Int} (h1:p.t<=t) (h2:t<q.t) (hp:0<=p.t) (hq:q.t<=4096) (ha:p.a<=q.a) (hpa:0<=p.a) (hqa:q.a<=8192):0<=(t-p.t)*(q.a-p.a)/\(t-p.t)*(q.a-p.a)<=33554432:=by
 refine ⟨Int.mul_nonneg (by omega) (by omega),?_⟩;have:(t-p.t)*(q.a-p.a)<=4096*8192:=Int.mul_le_mul (by omega) (by omega) (by omega) (by omega);omega
theorem ZfB (l:List Pt) (c:Bool) (t:Int) (hl:Y2 l) (ht:0<=t/\t<=1073741824):PC 278 [.p (.list c (l.map ePt)),.p (.int .i64 t)] (.int .i64 (Zb1 l t)):=by
 obtain ⟨⟨hl1,hl2⟩,hpt⟩:=hl;refine Za Tryz.func278 rfl Zsq ?_;simp (disch:=omega) only [Tryz.f278,go_sem,seval];refine ((Zmv l c (by omega)).frozenE).useV fun m hm=> ?_;simp (disch:=omega) only [go_sem,seval]
 have hm0:m.length=0:=by rw [hm.emp.2 ⟨⟨hl1,hl2⟩,hpt⟩];rfl
 have e1: ¬t<0:=by omega
 have e2: ¬ 1073741824<t:=by omega
 simp (disch:=omega) only [hm0,e1,e2,go_sem,seval];refine Zf [0,1] (fun k:Nat=> [(5,.p (.int .i64 k))]) (fun _=> []) (fun k=>k<l.length/\ ∀j,j<k->JO l t j=false) (fun k=>l.length-k) 0 (by simp;omega) (Weak.mk ?_) ?_
 ·simp (disch:=omega) only [go_sem,seval]
 ·rintro k ⟨hk,hno⟩;simp (disch:=omega) only [go_sem,seval];refine cD ?_ ?_<;>intro h<;>simp (disch:=omega) only [Sh.out h,go_sem,seval]
  ·have hk2:k+1<l.length:=by omega
   obtain ⟨⟨p1,p2,p3,p4⟩,_⟩:=hpt k hk;obtain ⟨⟨q1,q2,q3,q4⟩,q5⟩:=hpt (k+1) hk2;obtain ⟨r1,r2⟩:=q5 (by omega);rw [Nat.add_sub_cancel] at r1 r2;refine gT ?_ ?_<;>intro h2<;>simp (disch:=omega) only [Sh.out h2,go_sem,seval]
   ·refine cD ?_ ?_<;>intro h3<;>simp (disch:=omega) only [Sh.out h3,go_sem,seval]
    ·have hsg:JO l t k=true:=by simp [JO,h2,h3]
     rw [Zco hk2 hno hsg];obtain ⟨s1,s2⟩:=Kv h2 h3 p1 q2 r2 (by omega) (by omega);have d1:0<=((t-(nth l k).t)*((nth l (k+1)).a-(nth l k).a)+(nth l (k+1)).t-(nth l k).t-1) / ((nth l (k+1)).t-(nth l k).t):=Int.ediv_nonneg (by omega) (by omega);have d2:((t-(nth l k).t)*((nth l (k+1)).a-(nth l k).a)+(nth l (k+1)).t-(nth l k).t-1) / ((nth l (k+1)).t-(nth l k).t)<=33558528:=Int.le_trans (Int.ediv_le_self _ (by omega)) (by omega)
     have d3: ¬(nth l (k+1)).t-(nth l k).t=0:=by omega
     simp only [Zmc];refine Zg mixed (by kernel_rfl) (by kernel_rfl) ?_;simp (disch:=omega) only [d3,go_sem,seval]
    ·have hsg:JO l t k=false:=by simp [JO,h3]
     exact ⟨k+1,⟨by omega,Zi.2 ⟨hno,hsg⟩⟩,by omega,wk⟩
   ·have hsg:JO l t k=false:=by simp [JO,h2]
    exact ⟨k+1,⟨by omega,Zi.2 ⟨hno,hsg⟩⟩,by omega,wk⟩
  ·have hkl:k+1=l.length:=by omega
   rw [Ky (fun j hj=>hno j (by omega))];obtain ⟨⟨p1,p2,p3,p4⟩,_⟩:=hpt 0 (by omega);obtain ⟨⟨q1,q2,q3,q4⟩,_⟩:=hpt (l.length-1) (by omega)
   have i1:((l.length:Int)-1).toNat=l.length-1:=by omega
   refine cD ?_ ?_<;>intro h2<;>simp (disch:=omega) only [Sh.out h2,go_sem,seval]
theorem Zv {α:Type} [Inhabited α] {l:List α} {i:Nat} (h:i<l.length):nth l i∈l:=by rw [Ze h];exact List.getElem_mem h
def Zzf (a:Arc):Prop:=Y2 a.travel/\a.slow.length<=16/\ ∀p∈a.slow,0<=p.t/\p.t<=4096/\0<=p.a/\p.a<=4096
def U4 (l:List Pt) (t:Int) (k:Nat):Int:=(l.take k).foldl (fun s p=>if p.t<=t then s+p.a else s) 0
def Zl2 (a:Arc) (t:Int):Int:=Zb1 a.travel t+U4 a.slow t a.slow.length
theorem Up {l:List Pt} {t:Int} {k:Nat} (h:k<l.length):U4 l t (k+1)=if (nth l k).t<=t then U4 l t k+(nth l k).a else U4 l t k:=by
 rw [U4,List.take_succ_eq_append_getElem h,List.foldl_append,Ze h];rfl
theorem VI {l:List Pt} {t:Int} (hl: ∀p∈l,0<=p.a/\p.a<=4096): ∀k,k<=l.length->0<=U4 l t k/\U4 l t k<=4096*k
 | 0,_=>by simp [U4]
 | k+1,h=>by
  have ih:=VI (t:=t) hl k (by omega);have hp:=hl _ (Zv (show k<l.length by omega));rw [Up (by omega)]
  split<;>omega
theorem Zag {l:List Pt} {t:Int} (hl:Y2 l) (ht:0<=t/\t<=1073741824):0<=Zb1 l t/\Zb1 l t<=1107304448:=by
 obtain ⟨⟨hl1,hl2⟩,hpt⟩:=hl;unfold Zb1
 split
 ·rename_i i hi;have hm:=List.mem_of_find?_eq_some hi;have hs:=List.find?_some hi;simp at hm;simp only [JO,Bool.and_eq_true,decide_eq_true_eq] at hs;obtain ⟨⟨p1,p2,p3,p4⟩,_⟩:=hpt i (by omega);obtain ⟨⟨q1,q2,q3,q4⟩,q5⟩:=hpt (i+1) (by omega);obtain ⟨r1,r2⟩:=q5 (by omega);rw [Nat.add_sub_cancel] at r1 r2;obtain ⟨s1,s2⟩:=Kv hs.1 hs.2 p1 q2 r2 (by omega) (by omega);have d1:0<=((t-(nth l i).t)*((nth l (i+1)).a-(nth l i).a)+(nth l (i+1)).t-(nth l i).t-1) / ((nth l (i+1)).t-(nth l i).t):=Int.ediv_nonneg (by omega) (by omega);have d2:((t-(nth l i).t)*((nth l (i+1)).a-(nth l i).a)+(nth l (i+1)).t-(nth l i).t-1) / ((nth l (i+1)).t-(nth l i).t)<=33558528:=Int.le_trans (Int.ediv_le_self _ (by omega)) (by omega)
  unfold Zmc;omega
 ·obtain ⟨⟨p1,p2,p3,p4⟩,_⟩:=hpt 0 (by omega);obtain ⟨⟨q1,q2,q3,q4⟩,_⟩:=hpt (l.length-1) (by omega)
  split<;>omega
theorem Zfb (a:Arc) (t:Int) (ha:Zzf a) (ht:0<=t/\t<=1073741824):PC 273 [.p (Qh a),.p (.int .i64 t)] (.int .i64 (Zl2 a t)):=by
 obtain ⟨h1,h2,h3⟩:=ha;have hr:=Zag h1 ht;have hs:=VI (t:=t) (fun p hp=>(h3 p hp).2.2);refine Za Tryz.func273 rfl Zut ?_;simp (disch:=omega) only [Tryz.f273,go_sem,seval];refine (ZfB a.travel a.travel_c t h1 ht).use ?_;simp (disch:=omega) only [go_sem,seval];refine Zf [1,2] (fun k:Nat=> [(5,.p (.int .i64 (Zb1 a.travel t+U4 a.slow t k))),(6,.p (.int .i64 k))]) (fun _=> [XZ a]) (fun k=>k<=a.slow.length) (fun k=>a.slow.length-k) 0 (by simp) (Weak.mk ?_) ?_
 ·simp (disch:=omega) only [XZ,U4,List.foldl_nil,go_sem,seval];simp
 ·intro k hk;have hsk:=hs k hk;simp (disch:=omega) only [XZ,go_sem,seval];refine cD ?_ ?_<;>intro h<;>simp (disch:=omega) only [Sh.out h,go_sem,seval]
  ·have hk2:k<a.slow.length:=by omega
   have hp:=h3 _ (Zv hk2);have hsn:=Up (t:=t) hk2;refine cD ?_ ?_<;>intro h4<;>simp (disch:=omega) only [Sh.out h4,go_sem,seval]
   ·rw [if_pos h4] at hsn;exact ⟨k+1,by omega,by omega,Weak.mk (by simp (disch:=omega) only [XZ,hsn,Int.add_assoc,go_sem,seval])⟩
   ·rw [if_neg h4] at hsn;exact ⟨k+1,by omega,by omega,Weak.mk (by simp (disch:=omega) only [XZ,hsn,go_sem,seval])⟩
  ·have hkl:k=a.slow.length:=by omega
   subst hkl;simp only [Zl2]
theorem Zf2 {g:FuncId} {args:List V} {a b c:PV} {H:List AM.Obj} {K:V->List AM.Obj->Prop} (h:ACalls Tryz.prog g args [] fun x H'=>x= .tup [.p a,.p b,.p c]/\H'= []) (k:K (.tup [.p a,.p b,.p c]) H) (ha:ZU 0 args=true:=by rfl):ACalls Tryz.prog g args H K :=
 (h.behind ha H).mono fun x H' hq=>by
  obtain ⟨y,H1,⟨rfl,rfl⟩,rfl,rfl⟩:=hq;simpa [shV,shVs] using k
theorem Xs {g:FuncId} {args:List V} {a b:PV} {H:List AM.Obj} {K:V->List AM.Obj->Prop} (h:ACalls Tryz.prog g args [] fun x H'=>x= .tup [.p a,.p b]/\H'= []) (k:K (.tup [.p a,.p b]) H) (ha:ZU 0 args=true:=by rfl):ACalls Tryz.prog g args H K :=
 (h.behind ha H).mono fun x H' hq=>by
  obtain ⟨y,H1,⟨rfl,rfl⟩,rfl,rfl⟩:=hq;simpa [shV,shVs] using k
def UU (n:Net) (p:Int):Bool:=decide (0<=p)&&decide (p<(n.places.length:Int))
theorem ZaY (n:Net) (p:Int) (hn:n.places.length<=1048576):PC 271 [.p (Zds n),.p (.int .i64 p)] (.bool (UU n p)):=by
 refine Za Tryz.func271 rfl Zrz ?_;simp (disch:=omega) only [Tryz.f271,go_sem,seval];refine gT ?_ ?_<;>intro h<;>simp (disch:=omega) only [Sh.out h,go_sem,seval]
 ·simp [UU,h]
 ·simp [UU,h]
def YP (pr f t:Int) (a:Arc):Bool:=decide (a.src=f)&&decide (a.dst=t)&&decide (a.prof=pr)
def XL : Arc:=⟨0,0,0,0,true,[],true,[]⟩
def Yz (n:Net) (pr f t:Int):Arc×Bool:=match n.arcs.find? (YP pr f t) with | some a=>(a,true) | none=>(XL,false)
theorem Zdr {n:Net} {pr f t:Int} {k:Nat} (hk:k<n.arcs.length) (hno: ∀j,j<k->YP pr f t (nth n.arcs j)=false) (h:YP pr f t (nth n.arcs k)=true):Yz n pr f t=(nth n.arcs k,true):=by
 have:n.arcs.find? (YP pr f t)=some (nth n.arcs k):=by
  rw [List.find?_eq_some_iff_getElem];refine ⟨h,k,hk,by rw [Ze hk],fun j hj=> ?_⟩;have:=hno j hj;rw [Ze (by omega)] at this;simp [this]
 rw [Yz,this]
theorem ZdK {n:Net} {pr f t:Int} (hno: ∀j,j<n.arcs.length->YP pr f t (nth n.arcs j)=false):Yz n pr f t=(XL,false):=by
 have:n.arcs.find? (YP pr f t)=none:=by
  rw [List.find?_eq_none];intro a ha;obtain ⟨j,hj,rfl⟩:=List.mem_iff_getElem.1 ha;have:=hno j hj;rw [Ze hj] at this;simp [this]
 rw [Yz,this]
theorem Zjm (n:Net) (pr f t:Int) (hn:n.arcs.length<=1048576):PT 272 [.p (Zds n),.p (.int .i64 pr),.p (.int .i64 f),.p (.int .i64 t)] [.p (Qh (Yz n pr f t).1),.p (.bool (Yz n pr f t).2)]:=by
 refine Zb [] Tryz.func272 rfl ZtH ?_;simp (disch:=omega) only [Tryz.f272,go_sem,seval];refine Zf [1,2,3,4,8] (fun k:Nat=> [(10,.p (.int .i64 k))]) (fun _=>Zz n++ [XZ XL]) (fun k=>k<=n.arcs.length/\ ∀j,j<k->YP pr f t (nth n.arcs j)=false) (fun k=>n.arcs.length-k) 0 (by simp) (Weak.mk ?_) ?_
 ·simp (disch:=omega) only [Zz,XZ,XL,List.map_nil,List.cons_append,List.nil_append,go_sem,seval]
 ·rintro k ⟨hk,hno⟩;simp (disch:=omega) only [Zz,XZ,XL,List.map_nil,List.cons_append,List.nil_append,go_sem,seval];refine cD ?_ ?_<;>intro h<;>simp (disch:=omega) only [Sh.out h,go_sem,seval]
  ·have hk2:k<n.arcs.length:=by omega
   have nx:YP pr f t (nth n.arcs k)=false-> ∀j,j<k+1->YP pr f t (nth n.arcs j)=false:=fun h=>Zi.2 ⟨hno,h⟩;refine gT ?_ ?_<;>intro h1<;>simp (disch:=omega) only [Sh.out h1,go_sem,seval]
   ·refine gT ?_ ?_<;>intro h2<;>simp (disch:=omega) only [Sh.out h2,go_sem,seval]
    ·refine cD ?_ ?_<;>intro h3<;>simp (disch:=omega) only [Sh.out h3,go_sem,seval]
     ·have e:=Zdr hk2 hno (by simp [YP,h1,h2,h3]);rw [e];exact we
     ·exact ⟨k+1,⟨by omega,nx (by simp [YP,h3])⟩,by omega,Weak.mk (by simp (disch:=omega) only [Zz,XZ,XL,List.map_nil,List.cons_append,List.nil_append,go_sem,seval])⟩
    ·exact ⟨k+1,⟨by omega,nx (by simp [YP,h2])⟩,by omega,Weak.mk (by simp (disch:=omega) only [Zz,XZ,XL,List.map_nil,List.cons_append,List.nil_append,go_sem,seval])⟩
   ·exact ⟨k+1,⟨by omega,nx (by simp [YP,h1])⟩,by omega,Weak.mk (by simp (disch:=omega) only [Zz,XZ,XL,List.map_nil,List.cons_append,List.nil_append,go_sem,seval])⟩
  ·have hkn:k=n.arcs.length:=by omega
   subst hkn;rw [ZdK hno];exact we (by simp (disch:=omega) only [XL,List.map_nil,go_sem,seval])
def goN (n:Net) (pr f t τ:Int):Int×Int×Int :=
 if (UU n f&&UU n t)=false then (0,0,11) else if f=t then (τ,0,0) else if (Yz n pr f t).2=true then (Zl2 (Yz n pr f t).1 τ,(Yz n pr f t).1.miles,0) else (0,0,12)
def netR (n:Net):Prop:=n.places.length<=1048576/\n.arcs.length<=1048576/\ ∀a∈n.arcs,Zzf a
theorem QM {n:Net} {pr f t:Int} (h:(Yz n pr f t).2=true):(Yz n pr f t).1∈n.arcs:=by
 unfold Yz at h ⊢
 cases hf:n.arcs.find? (YP pr f t) with
 | none=>rw [hf] at h;simp at h
 | some a=>exact List.mem_of_find?_eq_some hf
theorem Zss (n:Net) (pr f t τ:Int) (hn:netR n) (hτ:0<=τ/\τ<=1073741824):PT 269 [.p (Zds n),.p (.int .i64 pr),.p (.int .i64 f),.p (.int .i64 t),.p (.int .i64 τ)] [.p (.int .i64 (goN n pr f t τ).1),.p (.int .i64 (goN n pr f t τ).2.1),.p (.int .i64 (goN n pr f t τ).2.2)]:=by
 refine Zb [] Tryz.func269 rfl ZsN ?_;simp (disch:=omega) only [Tryz.f269,go_sem,seval];refine (ZaY n f hn.1).use ?_;simp (disch:=omega) only [go_sem,seval];refine gF ?_ ?_<;>intro h1<;>simp (disch:=omega) only [Sh.out h1,go_sem,seval]
 ·have e:goN n pr f t τ=(0,0,11):=by simp only [Bool.not_eq_true'] at h1;simp [goN,h1]
  rw [e];exact we
 ·simp only [Bool.not_eq_false'] at h1;refine (ZaY n t hn.1).use ?_;simp (disch:=omega) only [go_sem,seval];refine cD ?_ ?_<;>intro h2<;>simp (disch:=omega) only [Sh.out h2,go_sem,seval]
  ·have e:goN n pr f t τ=(0,0,11):=by simp only [Bool.not_eq_true'] at h2;simp [goN,h2]
   rw [e];exact we
  ·simp only [Bool.not_eq_false'] at h2;refine cD ?_ ?_<;>intro h3<;>simp (disch:=omega) only [Sh.out h3,go_sem,seval]
   ·have e:goN n pr f t τ=(τ,0,0):=by simp [goN,h1,h2,h3]
    rw [e];exact we
   ·have cf:=Zjm n pr f t hn.2.1;have hm:= @QM n pr f t
    have e0:goN n pr f t τ=if (Yz n pr f t).2=true then (Zl2 (Yz n pr f t).1 τ,(Yz n pr f t).1.miles,0) else (0,0,12):=by simp [goN,h1,h2,h3]
    rw [e0];generalize Yz n pr f t=A at cf hm ⊢;obtain ⟨a,b⟩:=A;simp only at cf hm ⊢;refine Xs cf ?_;simp (disch:=omega) only [go_sem,seval];refine cD ?_ ?_<;>intro h4<;>simp (disch:=omega) only [Sh.out h4,go_sem,seval]
    ·have hb:b=false:=by simpa using h4
     subst hb;exact we
    ·have hb:b=true:=by simpa using h4
     subst hb;refine Zg mixed (by kernel_rfl) (by kernel_rfl) ?_;simp (disch:=omega) only [go_sem,seval];refine Zj (Zfb a τ (hn.2.2 a (hm rfl)) hτ) ?_;simp (disch:=omega) only [go_sem,seval];exact we
structure Sr where
 rdy:Int
 drv:Int
 deriving Inhabited,DecidableEq
def Vb (l:List Sr) (s:Sr):List Sr:=if s∈l then l else l++ [s]
def YI (t:Typ) (l:List Sr) (d v:Int):List Sr:=Vb (Vb l ⟨d,v⟩) ⟨d+t.rest,0⟩
def JY (x:Inst) (t:Typ) (from':Int) (stop:Stp) (out:List Sr) (a:Sr):List Sr :=
 if ¬(goN x.net t.prof from' stop.place a.rdy).2.2=0\/t.drive<a.drv+(goN x.net t.prof from' stop.place a.rdy).1-a.rdy then out
 else if stop.cls<max (goN x.net t.prof from' stop.place a.rdy).1 stop.opn then out
 else YI t out (max (goN x.net t.prof from' stop.place a.rdy).1 stop.opn+stop.serv) (a.drv+(goN x.net t.prof from' stop.place a.rdy).1-a.rdy)
def Kr (x:Inst) (t:Typ) (from':Int) (st:List Sr) (stop:Stp):List Sr:=st.foldl (JY x t from' stop) []
theorem ZaA {l:List Sr} {s a:Sr} :a∈Vb l s↔a∈l\/a=s:=by
 unfold Vb
 split
 ·rename_i h;exact ⟨.inl,fun g=>g.elim id fun e=>e ▸ h⟩
 ·simp
theorem XU {t:Typ} {l:List Sr} {d v:Int} {a:Sr} :a∈YI t l d v↔a∈l\/a=⟨d,v⟩\/a=⟨d+t.rest,0⟩:=by
 rw [YI,ZaA,ZaA,or_assoc]
theorem Ziu {n:Nat} (h:n<10):dec n= [UInt8.ofNat (48+n)]:=by rw [dec,dif_pos h]
theorem ZoU {n:Nat} (h:10<=n) (h2:n<100):dec n= [UInt8.ofNat (48+n / 10),UInt8.ofNat (48+n%10)]:=by
 rw [dec,dif_neg (by omega),Ziu (by omega)];rfl
theorem Zd9 {s:List UInt8} {k k':IntKind} {a b:Int} (h:0<=a/\a<=b/\b<=(s.length:Int)):Zlg (some .string) s (.p (.int k a)) (.p (.int k' b))=some (.p (.str ((s.take b.toNat).drop a.toNat))):=by
 simp only [Zlg,if_pos h]
def digT : List UInt8:=(List.range 36).map fun i=>UInt8.ofNat (if i<10 then 48+i else 87+i)
def smalT : List UInt8:=(List.range 100).flatMap fun i=> [UInt8.ofNat (48+i / 10),UInt8.ofNat (48+i%10)]
theorem Zoj : ∀n,n<10->(digT.take (n+1)).drop n= [UInt8.ofNat (48+n)]:=by decide
theorem Zj9 : ∀n,n<100->(smalT.take (2*n+2)).drop (2*n)= [UInt8.ofNat (48+n / 10),UInt8.ofNat (48+n%10)]:=by decide+kernel
theorem Zno (n:Nat) (hn:n<100):PC 274 [.p (.int .i64 (n:Int))] (.str (dec n)):=by
 refine Za Tryz.func274 rfl ZqU ?_;simp (disch:=omega) only [Tryz.f274,go_sem,seval];refine cD ?_ ?_<;>intro h<;>simp (disch:=omega) only [Sh.out h,go_sem,seval]
 ·rw [Ziu (by omega),Zd9 (by simp;omega)]
  have e1:((n:Int)+1).toNat=n+1:=by omega
  have e2:((n:Int)).toNat=n:=by omega
  rw [e1,e2];refine (congrArg (fun z=>pst (some (V.p (PV.str z))) _) (Zoj n (by omega))).mpr ?_;simp (disch:=omega) only [go_sem,seval]
 ·rw [ZoU (by omega) hn,Zd9 (by simp;omega)]
  have e1:((n:Int)*2+2).toNat=2*n+2:=by omega
  have e2:((n:Int)*2).toNat=2*n:=by omega
  rw [e1,e2];refine (congrArg (fun z=>pst (some (V.p (PV.str z))) _) (Zj9 n (by omega))).mpr ?_;simp (disch:=omega) only [go_sem,seval]
theorem Zlh (n:Nat) (hn:n<100):PC 270 [.p (.int .i64 (n:Int)),.p (.int .i64 10)] (.str (dec n)):=by
 refine Za Tryz.func270 rfl Zvy ?_
 have h0:(0:Int)<=(n:Int):=by omega
 have h1:(n:Int)<100:=by omega
 simp (disch:=omega) only [Tryz.f270,h0,h1,go_sem,seval];refine (Zno n hn).use ?_;simp (disch:=omega) only [go_sem,seval]
theorem Znv (n:Nat) (hn:n<100):PC 268 [.p (.int .i64 (n:Int))] (.str (dec n)):=by
 refine Za Tryz.func268 rfl Zvk ?_;simp (disch:=omega) only [Tryz.f268,go_sem,seval];refine (Zlh n hn).use ?_;simp (disch:=omega) only [go_sem,seval]
theorem ZwG (n:Nat) (hn:n<100):PC 265 [.p (.int .i64 (n:Int))] (.str (dec n)):=by
 refine Za Tryz.func265 rfl Zsh ?_;simp (disch:=omega) only [Tryz.f265,go_sem,seval];refine (Znv n hn).use ?_;simp (disch:=omega) only [go_sem,seval]
theorem ZdV (n a b:Int):PC 252 [.p (.int .i64 n),.p (.int .i64 a),.p (.int .i64 b)] (.bool (decide (a<=n)&&decide (n<=b))):=by
 refine Za Tryz.func252 rfl ZsF ?_;simp (disch:=omega) only [Tryz.f252,go_sem,seval]
 repeat' (first | (refine ZO (fun hq=> ?_) (fun hq=> ?_)<;>(try simp only [decide_eq_true_eq,decide_eq_false_iff_not,Classical.not_not] at hq)<;>simp (disch:=omega) only [Sh.out hq,go_sem,seval]) | (refine ZQ (fun hq=> ?_) (fun hq=> ?_)<;>(try simp only [decide_eq_true_eq,decide_eq_false_iff_not,Classical.not_not] at hq)<;>simp (disch:=omega) only [Sh.out hq,go_sem,seval]) | (refine Z6 (fun hq=> ?_) (fun hq=> ?_)<;>(try simp only [decide_eq_true_eq,decide_eq_false_iff_not,Classical.not_not] at hq)<;>simp (disch:=omega) only [Sh.out hq,go_sem,seval]))
 all_goals (simp;first | done | omega)
theorem Zk4 (l:List Pt) (c:Bool) (hl:Y2 l):PC 258 [.p (.list c (l.map ePt))] (.list true []):=by
 obtain ⟨⟨hl1,hl2⟩,hpt⟩:=hl;refine Za Tryz.func258 rfl Zve ?_
 have e1: ¬(l.length:Int)=0:=by omega
 have e2: ¬(16:Int)<(l.length:Int):=by omega
 simp (disch:=omega) only [Tryz.f258,e1,e2,go_sem,seval];refine Zf [0,19,20] (fun k:Nat=> [(3,.p (.list true [])),(21,.p (.int .i64 k))]) (fun _=> []) (fun k=>k<=l.length) (fun k=>l.length-k) 0 (by simp) (Weak.mk ?_) ?_
 ·simp (disch:=omega) only [go_sem,seval]
 ·intro k hk;simp (disch:=omega) only [go_sem,seval];refine cD ?_ ?_<;>intro h<;>simp (disch:=omega) only [Sh.out h,go_sem,seval]
  ·have hk2:k<l.length:=by omega
   obtain ⟨⟨p1,p2,p3,p4⟩,q⟩:=hpt k hk2;refine (ZwG k (by omega)).use ?_;simp (disch:=omega) only [go_sem,seval];refine (ZdV (nth l k).t 0 4096).use ?_;simp (disch:=omega) only [go_sem,seval];simp (disch:=omega) only [p1,p2,go_sem,seval];refine gF ?_ ?_<;>intro h3<;>simp (disch:=omega) only [Sh.out h3,go_sem,seval]
   ·omega
   ·refine cD ?_ ?_<;>intro h4<;>simp (disch:=omega) only [Sh.out h4,go_sem,seval]
    ·omega
    ·refine Zg mixed (by kernel_rfl) (by kernel_rfl) ?_;simp (disch:=omega) only [go_sem,seval];refine gT ?_ ?_<;>intro h5<;>simp (disch:=omega) only [Sh.out h5,go_sem,seval]
     ·obtain ⟨r1,r2⟩:=q (by omega);refine gF ?_ ?_<;>intro h6<;>simp (disch:=omega) only [Sh.out h6,go_sem,seval]
      ·omega
      ·refine cD ?_ ?_<;>intro h7<;>simp (disch:=omega) only [Sh.out h7,go_sem,seval]
       ·omega
       ·exact ⟨k+1,by omega,by omega,wk⟩
     ·exact ⟨k+1,by omega,by omega,wk⟩
theorem Zgo (p:Pt) (t:Int) (h:0<=p.t/\p.t<=4096) (ht:0<=t/\t<=1073741824):PC 260 [.p (ePt p),.p (.int .i64 t)] (.int .i64 (p.t-t)):=by
 refine Za Tryz.func260 rfl Zq0 ?_;simp (disch:=omega) only [Tryz.f260,go_sem,seval]
theorem Zm9 (l:List Pt) (c:Bool) (hl:Y2 l):PC 253 [.p (.list c (l.map ePt))] (.bool true):=by
 refine Za Tryz.func253 rfl ZwE ?_;simp (disch:=omega) only [Tryz.f253,go_sem,seval];refine (Zk4 l c hl).use ?_;simp (disch:=omega) only [go_sem,seval]
structure PosT (l:List Pt) (t:Int) (i:Nat):Prop where
 le:i<=l.length
 lo: ∀j,j<i->(nth l j).t<t
 hi: ∀j,i<=j->j<l.length->t<=(nth l j).t
theorem Zz8 (l:List Pt) (c:Bool) (t:Int) (i:Nat) (hl:Y2 l) (ht:0<=t/\t<=1073741824) (hi:PosT l t i):PT 259 [.p (.list c (l.map ePt)),.p (.int .i64 t),.fn (.func 260) [] []] [.p (.int .i64 (i:Int)),.p (.bool (decide (i<l.length)&&decide ((nth l i).t=t)))]:=by
 obtain ⟨⟨hl1,hl2⟩,hpt⟩:=hl;obtain ⟨hi1,hi2,hi3⟩:=hi;refine Zb [] Tryz.func259 rfl ZwJ ?_;simp (disch:=omega) only [Tryz.f259,go_sem,seval];refine Zf [0,1,2,8] (fun q:Nat×Nat=> [(9,.p (.int .i64 q.1)),(10,.p (.int .i64 q.2))]) (fun _=> []) (fun q=>q.1<=i/\i<=q.2/\q.2<=l.length) (fun q=>q.2-q.1) (0,l.length) (by simp;omega) (Weak.mk ?_) ?_
 ·simp (disch:=omega) only [go_sem,seval]
 ·rintro ⟨a,b⟩ ⟨h1,h2,h3⟩;simp only at h1 h2 h3;simp (disch:=omega) only [go_sem,seval];refine cD ?_ ?_<;>intro h<;>simp (disch:=omega) only [Sh.out h,go_sem,seval]
  ·have hm:(a+b) / 2<l.length:=by omega
   obtain ⟨⟨p1,p2,p3,p4⟩,q⟩:=hpt _ hm
   have hs:((a:Int)+(b:Int)).fdiv (2^min 1 64)=(((a+b) / 2:Nat):Int):=by
    rw [Int.fdiv_eq_ediv_of_nonneg _ (by decide)];norm_cast
   have em:((((a+b) / 2:Nat)):Int).toNat=(a+b) / 2:=by omega
   have hnb:((a+b) / 2<i)↔(nth l ((a+b) / 2)).t-t<0:=by
    constructor
    ·intro hh;have:=hi2 _ hh;omega
    ·intro hh
     by_cases g:(a+b) / 2<i
     ·exact g
     ·have:=hi3 _ (by omega) hm;omega
   rw [hs];simp (disch:=omega) only [go_sem,seval];refine (Zgo (nth l ((a+b) / 2)) t ⟨p1,p2⟩ ht).use ?_;simp (disch:=omega) only [go_sem,seval];refine cD ?_ ?_<;>intro h4<;>simp (disch:=omega) only [Sh.out h4,go_sem,seval]
   ·exact ⟨((a+b) / 2+1,b),⟨by simp only;have:=hnb.2 h4;omega,h2,h3⟩,by simp only;omega,wk⟩
   ·exact ⟨(a,(a+b) / 2),⟨h1,by simp only;have:=fun g=>h4 (hnb.1 g);omega,by simp only;omega⟩,by simp only;omega,wk⟩
  ·have:a=i:=by omega
   subst this;refine gT ?_ ?_<;>intro h4<;>simp (disch:=omega) only [Sh.out h4,go_sem,seval]
   ·have hm:a<l.length:=by omega
    obtain ⟨⟨p1,p2,p3,p4⟩,q⟩:=hpt _ hm;refine (Zgo (nth l a) t ⟨p1,p2⟩ ht).use ?_;simp (disch:=omega) only [go_sem,seval];have e5:((nth l a).t-t=0)=((nth l a).t=t):=propext (by omega);exact we (by simp (disch:=omega) only [e5,hm,go_sem,seval])
   ·have hm: ¬a<l.length:=by omega
    exact we (by simp (disch:=omega) only [hm,go_sem,seval])
theorem Qk {l:List Pt} (hl:Y2 l) {k:Nat} (hk:k<l.length): ∀j,j<k->(nth l j).t<(nth l k).t:=by
 obtain ⟨_,hpt⟩:=hl
 induction k with
 | zero=>intro j hj;omega
 | succ k ih =>
  intro j hj;obtain ⟨_,q⟩:=hpt (k+1) hk;obtain ⟨r1,_⟩:=q (by omega);rw [Nat.add_sub_cancel] at r1;rcases Nat.lt_succ_iff_lt_or_eq.1 hj with h | h
  ·exact Int.lt_trans (ih (by omega) j h) r1
  ·subst h;exact r1
theorem ZoR {l:List Pt} (hl:Y2 l) (t:Int): ∃i,PosT l t i:=by
 have: ∀n,n<=l.length-> ∃i,i<=n/\(∀j,j<i->(nth l j).t<t)/\(i<n->t<=(nth l i).t):=by
  intro n
  induction n with
  | zero=>intro _;exact ⟨0,by omega,fun j hj=>by omega,fun h=>by omega⟩
  | succ n ih =>
   intro hn;obtain ⟨i,h1,h2,h3⟩:=ih (by omega)
   by_cases g:i<n
   ·exact ⟨i,by omega,h2,fun _=>h3 g⟩
   ·have:i=n:=by omega
    subst this
    by_cases g2:(nth l i).t<t
    ·exact ⟨i+1,by omega,Zi.2 ⟨h2,g2⟩,fun h=>by omega⟩
    ·exact ⟨i,by omega,h2,fun _=>by omega⟩
 obtain ⟨i,h1,h2,h3⟩:=this l.length (Nat.le_refl _);refine ⟨i,h1,h2,fun j hj hjl=> ?_⟩;rcases Nat.lt_or_eq_of_le hj with h | h
 ·have:=Qk hl hjl i h;have:=h3 (by omega);omega
 ·subst h;exact h3 hjl
theorem Zoa {l:List Pt} {t:Int} {i:Nat} (hl:Y2 l) (h:PosT l t i) (hi:i<l.length) (e:(nth l i).t=t):Zb1 l t=(nth l i).a:=by
 by_cases g:i+1<l.length
 ·have m:=Qk hl g i (by omega);rw [Zco g (fun j hj=> ?_) (by simp [JO,e];omega),Zmc]
  ·rw [e,Int.sub_self,Int.zero_mul,Int.zero_add];rw [Int.ediv_eq_zero_of_lt (by omega) (by omega)];omega
  ·have:(nth l (j+1)).t<=t:=by
    rcases Nat.lt_or_eq_of_le (show j+1<=i by omega) with h1 | h1
    ·have:=h.lo _ h1;omega
    ·rw [h1,e];exact Int.le_refl _
   simp [JO];omega
 ·have hi1:i=l.length-1:=by omega
  rw [Ky (fun j hj=> ?_)]
  ·split
   ·rw [<- hi1];omega
   ·have:i=0:=by
     by_cases g2:i=0
     ·exact g2
     ·have:=h.lo 0 (by omega);omega
    subst this;omega
  ·have:(nth l (j+1)).t<=t:=by
    rcases Nat.lt_or_eq_of_le (show j+1<=i by omega) with h1 | h1
    ·have:=h.lo _ h1;omega
    ·rw [h1,e];exact Int.le_refl _
   simp [JO];omega
theorem ZoQ {l:List Pt} {t:Int} (hl:Y2 l) (h:PosT l t 0) (e: ¬(nth l 0).t=t):Zb1 l t=t+(nth l 0).a-(nth l 0).t:=by
 have h0:=h.hi 0 (Nat.le_refl _) hl.1.1;rw [Ky (fun j hj=> ?_),if_neg (by omega)]
 have:t<(nth l j).t:=by
  by_cases g:j=0
  ·subst g;omega
  ·have:=Qk hl (show j<l.length by omega) 0 (by omega);omega
 simp [JO];omega
theorem ZnB {l:List Pt} {t:Int} (h:PosT l t l.length) (hl:0<l.length):Zb1 l t=t+(nth l (l.length-1)).a-(nth l (l.length-1)).t:=by
 rw [Ky (fun j hj=> ?_),if_pos (h.lo 0 hl)];have:=h.lo (j+1) hj;simp [JO];omega
theorem Zj3 {l:List Pt} {t:Int} {i:Nat} (h:PosT l t i) (h0:0<i) (hi:i<l.length) (e: ¬(nth l i).t=t):Zb1 l t=Zmc (nth l (i-1)) (nth l i) t:=by
 have e1:i-1+1=i:=by omega
 have h1:=h.lo (i-1) (by omega);have h2:=h.hi i (Nat.le_refl _) hi;have:=Zco (l:=l) (t:=t) (i:=i-1) (by omega) (fun j hj=>by have:=h.lo (j+1) (by omega);simp [JO];omega) (by rw [JO,e1];simp;omega);rw [this,e1]
theorem ZaO {p q:Pt} {t:Int} (h1:p.t<=t) (h2:t<q.t) (hp:0<=p.t) (hq:q.t<=4096) (ha:p.a<=q.a) (hpa:0<=p.a) (hqa:q.a<=8192) :
  IntKind.i64.wrap (p.a+IntKind.i64.wrap ((IntKind.i64.wrap (IntKind.i64.wrap (IntKind.i64.wrap ((t-p.t)*(q.a-p.a))+(q.t-p.t))-1)).tdiv (q.t-p.t)))=Zmc p q t:=by
 have hm:=Kv h1 h2 hp hq ha hpa hqa;unfold Zmc;generalize hM:(t-p.t)*(q.a-p.a)=m at hm
 have hd:0<=(m+(q.t-p.t)-1) / (q.t-p.t)/\(m+(q.t-p.t)-1) / (q.t-p.t)<=m+(q.t-p.t)-1:=by
  refine ⟨Int.ediv_nonneg (by omega) (by omega),Int.ediv_le_self _ (by omega)⟩
 rw [IntWalk.i64_in m (by omega),IntWalk.i64_in (m+(q.t-p.t)) (by omega),IntWalk.i64_in (m+(q.t-p.t)-1) (by omega),Int.tdiv_eq_ediv_of_nonneg (by omega),IntWalk.i64_in ((m+(q.t-p.t)-1) / (q.t-p.t)) (by omega),IntWalk.i64_in _ (by omega)]
 congr 2
 omega
theorem Zfz (l:List Pt) (c:Bool) (t:Int) (hl:Y2 l) (ht:0<=t/\t<=1073741824):PC 254 [.p (.list c (l.map ePt)),.p (.int .i64 t)] (.int .i64 (Zb1 l t)):=by
 obtain ⟨i,hi⟩:=ZoR hl t;have hl':=hl;obtain ⟨⟨hl1,hl2⟩,hpt⟩:=hl';refine Za Tryz.func254 rfl Ztp ?_;simp (disch:=omega) only [Tryz.f254,go_sem,seval];refine Xs (Zz8 l c t i hl ht hi) ?_;simp (disch:=omega) only [go_sem,seval];obtain ⟨i1,i2,i3⟩:=id hi;refine cD ?_ ?_<;>intro h<;>simp (disch:=omega) only [Sh.out h,go_sem,seval]
 ·obtain ⟨h1,h2⟩:=h;have:=hpt i h1;rw [Zoa hl hi h1 h2]
 ·refine cD ?_ ?_<;>intro h0<;>simp (disch:=omega) only [Sh.out h0,go_sem,seval]
  ·have:i=0:=by omega
   subst this;obtain ⟨p1,p2⟩:=hpt 0 (by omega);rw [ZoQ hl hi (fun g=>h ⟨by omega,g⟩)];refine Zg mixed (by kernel_rfl) (by kernel_rfl) ?_;simp (disch:=omega) only [go_sem,seval]
  ·refine cD ?_ ?_<;>intro h1<;>simp (disch:=omega) only [Sh.out h1,go_sem,seval]
   ·have:i=l.length:=by omega
    subst this;obtain ⟨p1,p2⟩:=hpt (l.length-1) (by omega);rw [ZnB hi (by omega)]
    have e1:((l.length:Int)-1).toNat=l.length-1:=by omega
    refine Zg mixed (by kernel_rfl) (by kernel_rfl) ?_;simp (disch:=omega) only [go_sem,seval]
   ·have g1:i<l.length:=by omega
    rw [Zj3 hi (by omega) g1 (fun g=>h ⟨g1,g⟩)];have g2:=Qk hl g1 (i-1) (by omega);obtain ⟨p1,p2⟩:=hpt i g1;obtain ⟨p3,p4⟩:=hpt (i-1) (by omega)
    have e1:((i:Int)-1).toNat=i-1:=by omega
    have q1:=i2 (i-1) (by omega);have q2:=i3 i (Nat.le_refl _) g1;have q3: ¬(nth l i).t=t:=fun g=>h ⟨g1,g⟩;have q4:=p2 (by omega);refine ZP [9,10,11] 12 mixed (by kernel_rfl) (by kernel_rfl) (by kernel_rfl) (by simp) ?_;simp (disch:=omega) only [e1,go_sem,seval];refine Zbo 9 10 _ _ _ _ (by kernel_rfl) (by simp (disch:=omega) only [go_sem,seval];exact ⟨rfl,rfl⟩) (by simp (disch:=omega) only [go_sem,seval];exact ⟨rfl,rfl⟩) ?_ ?_
    ·refine ZC 10 _ _ (by kernel_rfl) (by simp (disch:=omega) only [go_sem,seval];exact ⟨rfl,rfl⟩) (ZC 11 _ _ (by kernel_rfl) (by simp (disch:=omega) only [go_sem,seval];exact ⟨rfl,rfl⟩) (Xr ?_));simp (disch:=omega) only [go_sem,seval];refine Zg mixed (by kernel_rfl) (by kernel_rfl) ?_;simp (disch:=omega) only [go_sem,seval];exact congrArg (fun z=>V.p (PV.int IntKind.i64 z)) (ZaO (by omega) (by omega) (by omega) (by omega) (by omega) (by omega) (by omega))
    ·refine ZC 9 _ _ (by kernel_rfl) (by simp (disch:=omega) only [go_sem,seval];exact ⟨rfl,rfl⟩) (ZC 11 _ _ (by kernel_rfl) (by simp (disch:=omega) only [go_sem,seval];exact ⟨rfl,rfl⟩) (Xr ?_));simp (disch:=omega) only [go_sem,seval];refine Zg mixed (by kernel_rfl) (by kernel_rfl) ?_;simp (disch:=omega) only [go_sem,seval];exact congrArg (fun z=>V.p (PV.int IntKind.i64 z)) (ZaO (by omega) (by omega) (by omega) (by omega) (by omega) (by omega) (by omega))
theorem ZgF (l:List Pt) (c:Bool) (t:Int) (hl:Y2 l) (ht:0<=t/\t<=1073741824):PC 242 [.p (.list c (l.map ePt)),.p (.int .i64 t)] (.int .i64 (Zb1 l t)):=by
 refine Za Tryz.func242 rfl Zsf ?_;simp (disch:=omega) only [Tryz.f242,go_sem,seval];refine (ZdV t 0 1073741824).use ?_;simp (disch:=omega) only [go_sem,seval];simp (disch:=omega) only [ht,go_sem,seval];refine (Zm9 l c hl).use ?_;simp (disch:=omega) only [go_sem,seval];refine (Zfz l c t hl ht).use ?_;simp (disch:=omega) only [go_sem,seval]
theorem Zeg (n:Net) (p:Int) (hn:n.places.length<=1048576):PC 221 [.p (Zds n),.p (.int .i64 p)] (.bool (UU n p)):=by
 refine Za Tryz.func221 rfl Zr0 ?_;simp (disch:=omega) only [Tryz.f221,go_sem,seval];refine gT ?_ ?_<;>intro h<;>simp (disch:=omega) only [Sh.out h,go_sem,seval]
 ·simp [UU,h]
 ·simp [UU,h]
theorem Zob (a:Arc):PC 241 [.p (Qh a)] (.agg [.int .i64 a.src,.int .i64 a.dst,.int .i64 a.prof]):=by
 refine Za Tryz.func241 rfl ZuY ?_;simp (disch:=omega) only [Tryz.f241,go_sem,seval]
theorem Zo8 (a:Arc) (t:Int) (ha:Zzf a) (ht:0<=t/\t<=1073741824):PC 223 [.p (Qh a),.p (.int .i64 t)] (.int .i64 (Zl2 a t)):=by
 obtain ⟨h1,h2,h3⟩:=ha;have hr:=Zag h1 ht;have hs:=VI (t:=t) (fun p hp=>(h3 p hp).2.2);refine Za Tryz.func223 rfl Zvw ?_;simp (disch:=omega) only [Tryz.f223,go_sem,seval];refine (ZgF a.travel a.travel_c t h1 ht).use ?_;simp (disch:=omega) only [go_sem,seval];refine Zf [1,13,14] (fun k:Nat=> [(5,.p (.int .i64 (Zb1 a.travel t+U4 a.slow t k))),(15,.p (.int .i64 k))]) (fun _=> [XZ a]) (fun k=>k<=a.slow.length) (fun k=>a.slow.length-k) 0 (by simp) (Weak.mk ?_) ?_
 ·simp (disch:=omega) only [XZ,U4,List.foldl_nil,go_sem,seval];simp
 ·intro k hk;have hsk:=hs k hk;simp (disch:=omega) only [XZ,go_sem,seval];refine cD ?_ ?_<;>intro h<;>simp (disch:=omega) only [Sh.out h,go_sem,seval]
  ·have hk2:k<a.slow.length:=by omega
   have hp:=h3 _ (Zv hk2);have hsn:=Up (t:=t) hk2;refine cD ?_ ?_<;>intro h4<;>simp (disch:=omega) only [Sh.out h4,go_sem,seval]
   ·rw [if_pos h4] at hsn;exact ⟨k+1,by omega,by omega,Weak.mk (by simp (disch:=omega) only [XZ,hsn,Int.add_assoc,go_sem,seval])⟩
   ·rw [if_neg h4] at hsn;exact ⟨k+1,by omega,by omega,Weak.mk (by simp (disch:=omega) only [XZ,hsn,go_sem,seval])⟩
  ·have hkl:k=a.slow.length:=by omega
   subst hkl;simp only [Zl2]
theorem Zon (n:Net) (pr f t:Int) (hn:n.arcs.length<=1048576):PT 222 [.p (Zds n),.p (.int .i64 pr),.p (.int .i64 f),.p (.int .i64 t)] [.p (Qh (Yz n pr f t).1),.p (.bool (Yz n pr f t).2)]:=by
 refine Zb [] Tryz.func222 rfl ZsA ?_;simp (disch:=omega) only [Tryz.f222,go_sem,seval];refine Zf [8,10,18,19] (fun k:Nat=> [(20,.p (.int .i64 k))]) (fun _=>Zz n++ [XZ XL,.cells [.p (.int .i64 f),.p (.int .i64 t),.p (.int .i64 pr)]]) (fun k=>k<=n.arcs.length/\ ∀j,j<k->YP pr f t (nth n.arcs j)=false) (fun k=>n.arcs.length-k) 0 (by simp) (Weak.mk ?_) ?_
 ·simp (disch:=omega) only [Zz,XZ,XL,List.map_nil,List.cons_append,List.nil_append,go_sem,seval]
 ·rintro k ⟨hk,hno⟩;simp (disch:=omega) only [Zz,XZ,XL,List.map_nil,List.cons_append,List.nil_append,go_sem,seval];refine cD ?_ ?_<;>intro h<;>simp (disch:=omega) only [Sh.out h,go_sem,seval]
  ·have hk2:k<n.arcs.length:=by omega
   have nx:YP pr f t (nth n.arcs k)=false-> ∀j,j<k+1->YP pr f t (nth n.arcs j)=false:=fun h=>Zi.2 ⟨hno,h⟩;refine Zg mixed (by kernel_rfl) (by kernel_rfl) ?_;simp (disch:=omega) only [go_sem,seval];refine Zj (Zob (nth n.arcs k)) ?_;simp (disch:=omega) only [go_sem,seval];refine cD ?_ ?_<;>intro h1<;>simp (disch:=omega) only [Sh.out h1,go_sem,seval]
   ·have e:=Zdr hk2 hno (by simp [YP,h1]);obtain ⟨rfl,rfl,rfl⟩:=h1;rw [e];exact we
   ·have e2:YP pr f t (nth n.arcs k)=false:=by
     cases hq:YP pr f t (nth n.arcs k) with
     | false=>rfl
     | true=>simp only [YP,Bool.and_eq_true,decide_eq_true_eq] at hq;exact absurd ⟨hq.1.1,hq.1.2,hq.2⟩ h1
    exact ⟨k+1,⟨by omega,nx e2⟩,by omega,Weak.mk (by simp (disch:=omega) only [Zz,XZ,XL,List.map_nil,List.cons_append,List.nil_append,go_sem,seval])⟩
  ·have hkn:k=n.arcs.length:=by omega
   subst hkn;rw [ZdK hno];exact we (by simp (disch:=omega) only [XL,List.map_nil,go_sem,seval])
theorem Ztb (n:Net) (pr f t τ:Int) (hn:netR n) (hτ:0<=τ/\τ<=1073741824):PT 192 [.p (Zds n),.p (.int .i64 pr),.p (.int .i64 f),.p (.int .i64 t),.p (.int .i64 τ)] [.p (.int .i64 (goN n pr f t τ).1),.p (.int .i64 (goN n pr f t τ).2.1),.p (.int .i64 (goN n pr f t τ).2.2)]:=by
 refine Zb [] Tryz.func192 rfl Zq1 ?_;simp (disch:=omega) only [Tryz.f192,go_sem,seval];refine (Zeg n f hn.1).use ?_;simp (disch:=omega) only [go_sem,seval];refine gF ?_ ?_<;>intro h1<;>simp (disch:=omega) only [Sh.out h1,go_sem,seval]
 ·have e:goN n pr f t τ=(0,0,11):=by simp only [Bool.not_eq_true'] at h1;simp [goN,h1]
  rw [e];exact we
 ·simp only [Bool.not_eq_false'] at h1;refine (Zeg n t hn.1).use ?_;simp (disch:=omega) only [go_sem,seval];refine cD ?_ ?_<;>intro h2<;>simp (disch:=omega) only [Sh.out h2,go_sem,seval]
  ·have e:goN n pr f t τ=(0,0,11):=by simp only [Bool.not_eq_true'] at h2;simp [goN,h2]
   rw [e];exact we
  ·simp only [Bool.not_eq_false'] at h2;refine cD ?_ ?_<;>intro h3<;>simp (disch:=omega) only [Sh.out h3,go_sem,seval]
   ·have e:goN n pr f t τ=(τ,0,0):=by simp [goN,h1,h2,h3]
    rw [e];exact we
   ·have cf:=Zon n pr f t hn.2.1;have hm:= @QM n pr f t
    have e0:goN n pr f t τ=if (Yz n pr f t).2=true then (Zl2 (Yz n pr f t).1 τ,(Yz n pr f t).1.miles,0) else (0,0,12):=by simp [goN,h1,h2,h3]
    rw [e0];generalize Yz n pr f t=A at cf hm ⊢;obtain ⟨a,b⟩:=A;simp only at cf hm ⊢;refine Xs cf ?_;simp (disch:=omega) only [go_sem,seval];refine cD ?_ ?_<;>intro h4<;>simp (disch:=omega) only [Sh.out h4,go_sem,seval]
    ·have hb:b=false:=by simpa using h4
     subst hb;exact we
    ·have hb:b=true:=by simpa using h4
     subst hb;refine Zg mixed (by kernel_rfl) (by kernel_rfl) ?_;simp (disch:=omega) only [go_sem,seval];refine Zj (Zo8 a τ (hn.2.2 a (hm rfl)) hτ) ?_;simp (disch:=omega) only [go_sem,seval];exact we
theorem Zm8 (x:Inst) (pr f t τ:Int) (hn:netR x.net) (hτ:0<=τ/\τ<=1073741824):PT 267 [.p (Zt x),.p (.int .i64 pr),.p (.int .i64 f),.p (.int .i64 t),.p (.int .i64 τ)] [.p (.int .i64 (goN x.net pr f t τ).1),.p (.int .i64 (goN x.net pr f t τ).2.1),.p (.bool (decide ((goN x.net pr f t τ).2.2=0)))]:=by
 refine Zb [] Tryz.func267 rfl Ztd ?_;simp (disch:=omega) only [Tryz.f267,go_sem,seval];refine Zf2 (Zss x.net pr f t τ hn hτ) ?_;simp (disch:=omega) only [go_sem,seval];exact we
structure StD where
 place:Int
 time:Int
 driven:Int
 miles:Int
def ZuS (s:StD):PV:= .agg [.int .i64 s.place,.int .i64 s.time,.int .i64 s.driven,.int .i64 s.miles]
@[go_sem] theorem ZAS (s:StD):ZuS s= .agg [.int .i64 s.place,.int .i64 s.time,.int .i64 s.driven,.int .i64 s.miles]:=Eq.trans rfl rfl
def Zdo (t:Typ) (s:StD) (b:Bool):StD:=if b=true then { s with time:=s.time+t.rest,driven:=0 } else s
theorem ZdB (t:Typ) (s:StD) (b:Bool) (hb: -1099511627776<=s.time/\s.time<=1099511627776/\ -1099511627776<=t.rest/\t.rest<=1099511627776):PC 263 [.p (U7 t),.p (ZuS s),.p (.bool b)] (ZuS (Zdo t s b)):=by
 refine Za Tryz.func263 rfl Zwj ?_
 cases b with
 | true=>simp (disch:=omega) only [Tryz.f263,Zdo,go_sem,seval]
 | false=>simp (disch:=omega) only [Tryz.f263,Zdo,Bool.false_eq_true,go_sem,seval]
def UP (x:Inst) (t:Typ) (s:StD) (to cl late:Int):StD×Int :=
 if ¬(goN x.net t.prof s.place to s.time).2.2=0 then (s,12)
 else if cl<(goN x.net t.prof s.place to s.time).1 then (s,late)
 else if t.drive<s.driven+(goN x.net t.prof s.place to s.time).1-s.time then (s,16)
 else (⟨to,(goN x.net t.prof s.place to s.time).1,s.driven+(goN x.net t.prof s.place to s.time).1-s.time,s.miles+(goN x.net t.prof s.place to s.time).2.1⟩,0)
def Sml (n:Int):Prop:= -1099511627776<=n/\n<=1099511627776
theorem Zev (x:Inst) (t:Typ) (s:StD) (to cl late:Int) (hn:netR x.net) (hs:0<=s.time/\s.time<=1073741824) (hd:Sml s.driven) (hm:Sml s.miles) (hg:Sml (goN x.net t.prof s.place to s.time).1/\Sml (goN x.net t.prof s.place to s.time).2.1) :
  PT 264 [.p (Zt x),.p (U7 t),.p (ZuS s),.p (.int .i64 to),.p (.int .i64 cl),.p (.int .i64 late)] [.p (ZuS (UP x t s to cl late).1),.p (.int .i64 (UP x t s to cl late).2)]:=by
 have cw:=Zm8 x t.prof s.place to s.time hn hs;unfold UP;generalize goN x.net t.prof s.place to s.time=g at cw hg ⊢;obtain ⟨a,m,e⟩:=g;unfold Sml at hd hm hg;simp only at cw hg ⊢;refine Zb [] Tryz.func264 rfl ZvK ?_;simp (disch:=omega) only [Tryz.f264,go_sem,seval];refine Zf2 cw ?_;simp (disch:=omega) only [go_sem,seval];refine cD ?_ ?_<;>intro h1<;>simp (disch:=omega) only [Sh.out h1,go_sem,seval]
 ·exact we
 ·rw [if_neg h1];refine cD ?_ ?_<;>intro h2<;>simp (disch:=omega) only [Sh.out h2,go_sem,seval]
  ·exact we
  ·rw [if_neg h2];refine cD ?_ ?_<;>intro h3<;>simp (disch:=omega) only [Sh.out h3,go_sem,seval]
   ·exact we
   ·exact we
structure Lab where
 ready:Int
 since:Int
 she:She
 deriving Inhabited
def zShe : She:=⟨false,0,true,[],0,0⟩
def W0 : Lab:=⟨0,0,zShe⟩
def ZW (t:Typ) (L:Lab) (b:Bool):Int:=if b=true then L.ready+t.rest else L.ready
def W3 (L:Lab) (b:Bool):Int:=if b=true then 0 else L.since
def ZjW (l:List Tim) (k:Nat) (d:Int) (b:Bool):List Tim:=l.set k { nth l k with dep:=d,rest:=b }
def Xx (k:Nat) (d:Int) (b:Bool) (s:She):She:=if k=0 then { s with rest:=b,dep:=d } else { s with times:=ZjW s.times (k-1) d b }
def Qq (t:Typ) (sp:List Stp) (k:Nat):Int:=if k=0 then t.src else (nth sp (k-1)).place
def toF (t:Typ) (sp:List Stp) (k:Nat):Int:=if k=sp.length then t.dst else (nth sp k).place
def goL (x:Inst) (t:Typ) (sp:List Stp) (k:Nat) (d:Int):Int×Int×Int:=goN x.net t.prof (Qq t sp k) (toF t sp k) d
def Vy (t:Typ) (sp:List Stp) (k:Nat) (g:Int×Int×Int) (d s:Int) (h:She):Lab×Int :=
 if ¬g.2.2=0 then (W0,12)
 else if k=sp.length then
  if t.cls<g.1 then (W0,15) else if t.drive<s+g.1-d then (W0,16)
  else (⟨g.1,s+g.1-d,{ h with fin:=g.1,miles:=h.miles+g.2.1 }⟩,0)
 else if (nth sp k).cls<max g.1 (nth sp k).opn then (W0,14)
 else if t.drive<s+g.1-d then (W0,16)
 else (⟨max g.1 (nth sp k).opn+(nth sp k).serv,s+g.1-d,{ h with times_c:=false,times:=h.times++ [⟨g.1,max g.1 (nth sp k).opn,0,false⟩],miles:=h.miles+g.2.1 }⟩,0)
def nxtF (x:Inst) (t:Typ) (sp:List Stp) (k:Nat) (L:Lab) (b:Bool):Lab×Int :=
 Vy t sp k (goL x t sp k (ZW t L b)) (ZW t L b) (W3 L b) (Xx k (ZW t L b) b L.she)
def X3 (x:Inst) (t:Typ) (sp:List Stp) (k:Nat) (L:Lab) (b:Bool):Option Lab:=if (nxtF x t sp k L b).2=0 then some (nxtF x t sp k L b).1 else none
def XV (x:Inst) (t:Typ) (sp:List Stp):Nat->Lab->List Bool->Lab×Int
 | _,L,[]=>(L,0)
 | k,L,b::bs=>if (nxtF x t sp k L b).2=0 then XV x t sp (k+1) (nxtF x t sp k L b).1 bs else (W0,(nxtF x t sp k L b).2)
def labF (t:Typ) (st:Int):Lab:=⟨max t.opn st,0,zShe⟩
theorem Wk {x:Inst} {t:Typ} {sp:List Stp} : ∀(bs:List Bool) (k:Nat) (L:Lab),Uw (X3 x t sp) k L bs=if (XV x t sp k L bs).2=0 then some (XV x t sp k L bs).1 else none
 | [],k,L=>by simp [Uw,XV]
 | b::bs,k,L=>by
  rw [Uw,XV,X3]
  by_cases h:(nxtF x t sp k L b).2=0
  ·simp only [h,if_true];exact Wk bs (k+1) _
  ·simp [h]
structure TrpOk (x:Inst) (t:Typ) (sp:List Stp):Prop where
 net:netR x.net
 mil: ∀a∈x.net.arcs,0<=a.miles/\a.miles<=10000
 opn:0<=t.opn/\t.opn<=t.cls/\t.cls<=4096
 drv:1<=t.drive/\t.drive<=4096
 rst:0<=t.rest/\t.rest<=4096
 stp: ∀s∈sp,0<=s.opn/\s.opn<=s.cls/\s.cls<=4096/\0<=s.serv/\s.serv<=4096
 len:sp.length<=20
structure LabR (k:Nat) (L:Lab):Prop where
 rdy:0<=L.ready/\L.ready<=8192
 snc: -(12288*(k:Int))<=L.since/\L.since<=4096
 mil:0<=L.she.miles/\L.she.miles<=10000*(k:Int)
theorem ZcP {n:Net} {pr f t τ:Int} (hn:netR n) (hm: ∀a∈n.arcs,0<=a.miles/\a.miles<=10000) (hτ:0<=τ/\τ<=1073741824):(0<=(goN n pr f t τ).1/\(goN n pr f t τ).1<=1107369984)/\(0<=(goN n pr f t τ).2.1/\(goN n pr f t τ).2.1<=10000):=by
 unfold goN
 split
 ·simp
 ·split
  ·simp only;omega
  ·split
   ·rename_i h;have hA:=QM h;have h1:=Zag (hn.2.2 _ hA).1 hτ;have h2:=VI (t:=τ) (fun p hp=>((hn.2.2 _ hA).2.2 p hp).2.2) _ (Nat.le_refl _);have h3:=(hn.2.2 _ hA).2.1;have h4:=hm _ hA;simp only [Zl2];omega
   ·simp
theorem VK {x t sp k L} (h:TrpOk x t sp) (hl:LabR k L) (b:Bool):0<=ZW t L b/\ZW t L b<=12288:=by
 have:=h.rst;have:=hl.rdy;unfold ZW
 split<;>omega
theorem K5 {k L} (hl:LabR k L) (b:Bool): -(12288*(k:Int))<=W3 L b/\W3 L b<=4096:=by
 have:=hl.snc;unfold W3
 split<;>omega
theorem Zcu {x t sp k L} (h:TrpOk x t sp) (hl:LabR k L) (b:Bool):(0<=(goL x t sp k (ZW t L b)).1/\(goL x t sp k (ZW t L b)).1<=1107369984)/\(0<=(goL x t sp k (ZW t L b)).2.1/\(goL x t sp k (ZW t L b)).2.1<=10000):=by
 have:=VK h hl b;exact ZcP h.net h.mil (by omega)
theorem Vv {k d b s} :(Xx k d b s).miles=s.miles:=by unfold Xx;split<;>rfl
theorem Zbs {k d b s} :(Xx k d b s).fin=s.fin:=by unfold Xx;split<;>rfl
theorem Ub {k d b s} :(Xx k d b s).times.length=s.times.length:=by unfold Xx;split<;>simp [ZjW]
theorem Zc9 {x t sp k L b} (h:TrpOk x t sp) (hk:k<=sp.length) (hl:LabR k L) (he:(nxtF x t sp k L b).2=0):LabR (k+1) (nxtF x t sp k L b).1:=by
 have h1:=VK h hl b;have h2:=K5 hl b;obtain ⟨h3,h4⟩:=Zcu h hl b;have h5:=hl.mil;have h6:=h.opn;have h7:=h.drv;have hm:(Xx k (ZW t L b) b L.she).miles=L.she.miles:=Vv;unfold nxtF at he ⊢
 generalize goL x t sp k (ZW t L b)=g at *
 generalize ZW t L b=d at *
 generalize W3 L b=s at *
 generalize Xx k d b L.she=m at *
 unfold Vy at he ⊢
 split at he
 ·simp at he
 ·rename_i c1;rw [if_neg c1]
  split at he
  ·rename_i c2;rw [if_pos c2]
   split at he
   ·simp at he
   ·rename_i c3;rw [if_neg c3]
    split at he
    ·simp at he
    ·rename_i c4;rw [if_neg c4];exact ⟨by simp only;omega,by simp only;omega,by simp only;omega⟩
  ·rename_i c2;rw [if_neg c2];have h8:=h.stp _ (Zv (show k<sp.length by omega))
   split at he
   ·simp at he
   ·rename_i c3;rw [if_neg c3]
    split at he
    ·simp at he
    ·rename_i c4;rw [if_neg c4];exact ⟨by simp only;omega,by simp only;omega,by simp only;omega⟩
theorem JR {x t sp k L b} (hl:L.she.times.length=k) (he:(nxtF x t sp k L b).2=0) (hk:k<sp.length):(nxtF x t sp k L b).1.she.times.length=k+1:=by
 have hm:(Xx k (ZW t L b) b L.she).times.length=L.she.times.length:=Ub;unfold nxtF at he ⊢
 generalize goL x t sp k (ZW t L b)=g at *
 generalize ZW t L b=d at *
 generalize W3 L b=s at *
 generalize Xx k d b L.she=m at *
 have hk2: ¬k=sp.length:=by omega
 unfold Vy at he ⊢;simp only [if_neg hk2] at he ⊢
 split at he
 ·simp at he
 ·rename_i c1;rw [if_neg c1]
  split at he
  ·simp at he
  ·rename_i c3;rw [if_neg c3]
   split at he
   ·simp at he
   ·rename_i c4;rw [if_neg c4];simp [hm,hl]
def ZH (m x:Lab):Bool:=decide (m.ready=x.ready)&&decide (m.since<=x.since)
theorem ZfK {x t sp k} {m y z:Lab} {b:Bool} (hb:ZH m y=true) (hn:X3 x t sp k y b=some z): ∃u,X3 x t sp k m b=some u/\ZH u z=true:=by
 simp only [ZH,Bool.and_eq_true,decide_eq_true_eq] at hb;obtain ⟨hb1,hb2⟩:=hb
 have hd:ZW t m b=ZW t y b:=by simp [ZW,hb1]
 have hs:W3 m b<=W3 y b:=by unfold W3;split<;>omega
 unfold X3 at hn ⊢;unfold nxtF at hn ⊢;rw [hd]
 generalize goL x t sp k (ZW t y b)=g at *
 generalize ZW t y b=d at *
 generalize W3 y b=s at *
 generalize W3 m b=s2 at *
 generalize Xx k d b y.she=h1 at *
 generalize Xx k d b m.she=h2 at *
 unfold Vy at hn ⊢
 by_cases c1:g.2.2=0
 ·by_cases c2:k=sp.length
  ·simp only [c1,c2,not_true,if_true,if_false] at hn ⊢
   by_cases c3:t.cls<g.1
   ·simp [c3] at hn
   ·by_cases c4:t.drive<s+g.1-d
    ·simp [c3,c4] at hn
    ·have c5: ¬t.drive<s2+g.1-d:=by omega
     simp only [c3,c4,if_false,if_true,Option.some.injEq] at hn;subst hn;refine ⟨_,by simp only [c3,c5,if_false,if_true];rfl,?_⟩;simp [ZH];omega
  ·simp only [c1,c2,not_true,if_true,if_false] at hn ⊢
   by_cases c3:(nth sp k).cls<max g.1 (nth sp k).opn
   ·simp [c3] at hn
   ·by_cases c4:t.drive<s+g.1-d
    ·simp [c3,c4] at hn
    ·have c5: ¬t.drive<s2+g.1-d:=by omega
     simp only [c3,c4,if_false,if_true,Option.some.injEq] at hn;subst hn;refine ⟨_,by simp only [c3,c5,if_false,if_true];rfl,?_⟩;simp [ZH];omega
 ·simp [c1] at hn
def WZ (L:Lab):Int:=L.she.fin
theorem Zey {x t sp} {y z:Lab} {b:Bool} (hn:X3 x t sp sp.length y b=some z):z.she.fin=z.ready:=by
 unfold X3 nxtF Vy at hn
 by_cases c1:(goL x t sp sp.length (ZW t y b)).2.2=0
 ·by_cases c3:t.cls<(goL x t sp sp.length (ZW t y b)).1
  ·simp [c1,c3] at hn
  ·by_cases c4:t.drive<W3 y b+(goL x t sp sp.length (ZW t y b)).1-ZW t y b
   ·simp [c1,c3,c4] at hn
   ·simp only [c1,c3,c4,not_true,if_true,if_false,Option.some.injEq] at hn;subst hn;rfl
 ·simp [c1] at hn
theorem Zbk {x t sp} (ch:Nat->List Bool) (L:Lab):fmL WZ none (U8 ZH (X3 x t sp) ch (sp.length+1) 0 [L])=fmL WZ none (YM (X3 x t sp) ch (sp.length+1) 0 L):=by
 have h:=ZiW WZ ZH (X3 x t sp) ch (n:=sp.length+1) (Inv:=fun k y=>k=sp.length+1->y.she.fin=y.ready)
  (fun k y b z _ hn hk=>by
   have:k=sp.length:=by omega
   subst this
   exact Zey hn) (fun k m y b z _ _ hb hn=>ZfK hb hn)
  (fun m y h1 h2 hb=>by
   simp only [ZH,Bool.and_eq_true,decide_eq_true_eq] at hb
   rw [WZ,WZ,h1 rfl,h2 rfl];omega) (sp.length+1) 0 [L] (by omega) (fun y _ hk=>by omega)
 rw [h];simp
def chF (r:List Bool) (k:Nat):List Bool:=match r[k]? with | some b=> [b] | none=> [false,true]
theorem Zg6 (r:List Bool) (n:Nat) (hn:r.length<=n): ∀(j k:Nat),k+j=r.length->Zjl (chF r) (n-k) k=(Yg (List.replicate (n-r.length) false)).map (r.drop k++ ·)
 | 0,k,h=>by
  have hk:k=r.length:=by omega
  subst hk;rw [ZeG (n:=n) _ _ _ (fun q hq=>by simp [chF,List.getElem?_eq_none hq])];simp
 | j+1,k,h=>by
  have e:n-k=(n-(k+1))+1:=by omega
  have hlt:k<r.length:=by omega
  rw [e,Zjl,Zg6 r n hn j (k+1) (by omega)]
  have:chF r k= [r[k]]:=by simp [chF,hlt]
  rw [this,List.flatMap_cons,List.flatMap_nil,List.append_nil,List.map_map,List.drop_eq_getElem_cons hlt]
  rfl
theorem ZbX (r:List Bool) (n:Nat) (hn:r.length<=n):Zjl (chF r) n 0=(Yg (List.replicate (n-r.length) false)).map (r++ ·):=by
 have:=Zg6 r n hn r.length 0 (by omega);simpa using this
def YG (r:List Bool) (n:Nat):List (List Bool):=(Yg (List.replicate (n-r.length) false)).map (r++ ·)
def Va (r:List Bool) (n:Nat):List Bool:=r++List.replicate (n-r.length) false
def VN (x:Inst) (t:Typ) (sp:List Stp) (st:Int) (r:List Bool):She×Int :=
 match fmL WZ none ((YG r (sp.length+1)).filterMap (Uw (X3 x t sp) 0 (labF t st))) with
 | some L=>(L.she,0)
 | none=>(zShe,(XV x t sp 0 (labF t st) (Va r (sp.length+1))).2)
theorem Zbr {x t sp} {st:Int} {r:List Bool} (hr:r.length<=sp.length+1):VN x t sp st r=match fmL WZ none (U8 ZH (X3 x t sp) (chF r) (sp.length+1) 0 [labF t st]) with
 | some L=>(L.she,0)
 | none=>(zShe,(XV x t sp 0 (labF t st) (Va r (sp.length+1))).2):=by
 rw [Zbk,YM,ZbX r _ hr];rfl
theorem Zem {x t sp} : ∀(bs:List Bool) (k:Nat) (L:Lab),L.she.times.length=k->k+bs.length=sp.length+1->0<bs.length->(XV x t sp k L bs).2=0->(XV x t sp k L bs).1.she.times.length=sp.length
 | [],k,L,h1,h2,h3,h=>by simp at h3
 | b::bs,k,L,h1,h2,_,h=>by
  rw [XV] at h ⊢
  by_cases h4:(nxtF x t sp k L b).2=0
  ·simp only [h4,if_true] at h ⊢
   cases bs with
   | nil =>
    simp at h2;subst h2;rw [XV];unfold nxtF at h4 ⊢;unfold Vy at h4 ⊢
    split at h4
    ·simp at h4
    ·rename_i c1;rw [if_neg c1];simp only [if_true] at h4 ⊢
     split at h4
     ·simp at h4
     ·rename_i c2;rw [if_neg c2]
      split at h4
      ·simp at h4
      ·rename_i c3;rw [if_neg c3];simp [Ub,h1]
   | cons b2 bs =>
    simp at h2;exact Zem (b2::bs) (k+1) _ (JR h1 h4 (by omega)) (by simp;omega) (by simp) h
  ·simp [h4] at h
theorem bestF_len {x t sp} {st:Int} {r:List Bool} (hr:r.length<=sp.length+1) (h:(VN x t sp st r).2=0):(VN x t sp st r).1.times.length=sp.length:=by
 unfold VN at h ⊢
 cases hf:fmL WZ none ((YG r (sp.length+1)).filterMap (Uw (X3 x t sp) 0 (labF t st))) with
 | none =>
  rw [hf] at h;simp only at h ⊢;exfalso
  have hm:Va r (sp.length+1)∈YG r (sp.length+1):=by
   unfold YG Va;rw [fromB_next];simp
  have h2:Uw (X3 x t sp) 0 (labF t st) (Va r (sp.length+1))=some (XV x t sp 0 (labF t st) (Va r (sp.length+1))).1:=by rw [Wk,if_pos h]
  have h3:(XV x t sp 0 (labF t st) (Va r (sp.length+1))).1∈(YG r (sp.length+1)).filterMap (Uw (X3 x t sp) 0 (labF t st)):=List.mem_filterMap.2 ⟨_,hm,h2⟩;generalize (YG r (sp.length+1)).filterMap (Uw (X3 x t sp) 0 (labF t st))=l at hf h3
  cases l with
  | nil=>simp at h3
  | cons a l =>
   rw [fmL] at hf;obtain ⟨z,e,_⟩:=V6 WZ l a;rw [e] at hf
   cases hf
 | some L =>
  simp only;have hm:=fmL_mem _ _ hf;obtain ⟨bs,hbs,hrun⟩:=List.mem_filterMap.1 hm;rw [Wk] at hrun
  split at hrun
  ·rename_i h5;simp at hrun;subst hrun;obtain ⟨q,hq,rfl⟩:=List.mem_map.1 hbs;have hql:=fromB_len _ _ hq;simp at hql;exact Zem _ 0 _ rfl (by simp [hql];omega) (by simp [hql];omega) h5
  ·cases hrun
where
 fmL_mem: ∀(l:List Lab) (L:Lab),fmL WZ none l=some L->L∈l
 | [],L,h=>by simp [fmL] at h
 | a::l,L,h=>by
  rw [fmL] at h;exact fmL_mem2 l a L h
 fmL_mem2: ∀(l:List Lab) (a L:Lab),fmL WZ (some a) l=some L->L∈a::l
 | [],a,L,h=>by simp [fmL] at h;subst h;simp
 | y::l,a,L,h=>by
  rw [fmL] at h
  split at h
  ·have:=fmL_mem2 l y L h;simp only [List.mem_cons] at this ⊢;rcases this with h | h<;>simp [h]
  ·have:=fmL_mem2 l a L h;simp only [List.mem_cons] at this ⊢;rcases this with h | h<;>simp [h]
 fromB_len: ∀(l q:List Bool),q∈Yg l->q.length=l.length
 | [],q,h=>by simp [Yg] at h;subst h;rfl
 | b::bs,q,h=>by
  rw [Yg] at h
  split at h
  ·obtain ⟨q',hq,rfl⟩:=List.mem_map.1 h;simp [fromB_len bs q' hq]
  ·rcases List.mem_append.1 h with h | h
   ·obtain ⟨q',hq,rfl⟩:=List.mem_map.1 h;simp [fromB_len bs q' hq]
   ·obtain ⟨q',hq,rfl⟩:=List.mem_map.1 h;simp [fromB_len (List.replicate bs.length false) q' hq]
 termination_by l=>l.length
 decreasing_by all_goals simp
def Xf (x:Inst) (v:Vis):Stp:=if v.drp=true then (nth x.orders v.order.toNat).drp else (nth x.orders v.order.toNat).pick
def ZA (x:Inst) (l:List Vis):List Stp:=l.map (Xf x)
def Yu (t:Typ) (s:Int):Bool:=decide (0<=t.skills)&&decide (0<=s)&&(List.range 63).all fun i=> !s.toNat.testBit i||t.skills.toNat.testBit i
def Y0 (a c:List Int):Bool:=decide (a.length=c.length)&&(List.range a.length).all fun i=>decide (nth a i<=nth c i)
def Ua (x:Inst) (c:List Int) (l:List Vis):Bool:=(List.range (l.length+1)).all fun n=>Y0 (WL x l n) c
def Z2 (x:Inst) (r:Rte):Typ:=nth x.types r.typ.toNat
def Ws (l:List Vis) (i:Nat):Bool:= !((l.take i).any fun v=>decide (v.order=(nth l i).order))
def ZG (k t:Int):Bool:=decide (k≠ -1)&&decide (k≠t)
def chgF (x:Inst) (l:List Vis) (t:Int):Nat->Int×Int
 | 0=>(0,0)
 | n+1=>if Ws l n=true then ((chgF x l t n).1+(if ZG (nth x.orders (nth l n).order.toNat).now t=true then 1 else 0),(chgF x l t n).2+(if ZG (nth x.orders (nth l n).order.toNat).last t=true then 1 else 0)) else chgF x l t n
def ZlQ (x:Inst) (r:Rte) (s:She):Sco :=
 ⟨(Z2 x r).fixed+(Z2 x r).perMile*s.miles+(Z2 x r).perTick*(s.fin-(Z2 x r).opn),(chgF x r.visits r.typ r.visits.length).1,(chgF x r.visits r.typ r.visits.length).2,(s.fin-(Z2 x r).opn).tdiv 64*(s.fin-(Z2 x r).opn).tdiv 64⟩
def XD (x:Inst) (r:Rte):Int :=
 if ¬(0<=r.typ/\r.typ<(x.types.length:Int)) then 2
 else if ¬ZR x r.visits=0 then ZR x r.visits
 else if (r.visits.any fun v=> !Yu (Z2 x r) (nth x.orders v.order.toNat).skills)=true then 18
 else if Ua x (Z2 x r).cap r.visits=false then 17
 else if ¬(0<=r.start/\r.start<=4096/\r.rests.length<=r.visits.length+1) then 2
 else 0
def Xd (x:Inst) (r:Rte):She×Int:=VN x (Z2 x r) (ZA x r.visits) r.start r.rests
def Xj (x:Inst) (r:Rte):Int:=if XD x r=0 then (Xd x r).2 else XD x r
def Vw (x:Inst) (r:Rte):She:=if Xj x r=0 then (Xd x r).1 else zShe
def QN (x:Inst) (r:Rte):Sco:=if Xj x r=0 then ZlQ x r (Xd x r).1 else zSco
def ZBj : Stp:=⟨0,0,0,0⟩
def inB (x:Inst) (v:Vis):Bool:=decide (0<=v.order)&&decide (v.order<(x.orders.length:Int))
def Zas (x:Inst) (v:Vis):Bool:=inB x v&&decide (0<=(Xf x v).place)
def KY (x:Inst) (v:Vis):Stp:=if inB x v=true then Xf x v else ZBj
theorem ZdM (x:Inst) (v:Vis) (ho:x.orders.length<=1048576):PT 256 [.p (Zt x),.p (Z5 v)] [.p (Zhm (KY x v)),.p (.bool (Zas x v))]:=by
 refine Zb [] Tryz.func256 rfl Zwy ?_;simp (disch:=omega) only [Tryz.f256,go_sem,seval];refine gF ?_ ?_<;>intro h1<;>simp (disch:=omega) only [Sh.out h1,go_sem,seval]
 ·have e:inB x v=false:=by
   have: ¬ 0<=v.order:=by omega
   simp [inB,this]
  simp only [KY,Zas,e,Bool.false_and,Bool.false_eq_true,if_false,ZBj];exact we
 ·refine cD ?_ ?_<;>intro h2<;>simp (disch:=omega) only [Sh.out h2,go_sem,seval]
  ·have e:inB x v=false:=by
    have: ¬v.order<(x.orders.length:Int):=by omega
    simp [inB,this]
   simp only [KY,Zas,e,Bool.false_and,Bool.false_eq_true,if_false,ZBj];exact we
  ·have e:inB x v=true:=by simp [inB];omega
   have hi:v.order.toNat<x.orders.length:=by omega
   refine cD ?_ ?_<;>intro hd<;>simp (disch:=omega) only [Sh.out hd,go_sem,seval]
   ·have hG:KY x v=(nth x.orders v.order.toNat).drp:=by simp [KY,e,Xf,hd]
    have hV:Zas x v=decide (0<=(nth x.orders v.order.toNat).drp.place):=by simp [Zas,e,Xf,hd]
    rw [hG,hV];refine ZdQ (.cons 0 (.cons 1 (.cons 2 (.cons 3 (.cons 4 (.cons 5 .nil .nil) .nil) (.cons 4 (.cons 3 (.cons 5 .nil .nil) .nil) .nil)) (.cons 4 (.cons 2 (.cons 3 (.cons 5 .nil .nil) .nil) .nil) .nil)) (.cons 4 (.cons 1 (.cons 2 (.cons 3 (.cons 5 .nil .nil) .nil) .nil) .nil) .nil)) (.cons 1 (.cons 0 (.cons 2 (.cons 3 (.cons 4 (.cons 5 .nil .nil) .nil) (.cons 4 (.cons 3 (.cons 5 .nil .nil) .nil) .nil)) (.cons 4 (.cons 2 (.cons 3 (.cons 5 .nil .nil) .nil) .nil) .nil)) (.cons 2 (.cons 0 (.cons 3 (.cons 4 (.cons 5 .nil .nil) .nil) (.cons 4 (.cons 3 (.cons 5 .nil .nil) .nil) .nil)) (.cons 3 (.cons 0 (.cons 4 (.cons 5 .nil .nil) .nil) .nil) .nil)) .nil)) .nil)) mixed (by kernel_rfl) ?_
    simp (disch:=omega) only [go_sem,seval]
    repeat' first
     | refine Zbj ?_ ?_
     | exact we
     | simp (disch:=omega) only [go_sem,seval]
   ·have hG:KY x v=(nth x.orders v.order.toNat).pick:=by simp [KY,e,Xf,hd]
    have hV:Zas x v=decide (0<=(nth x.orders v.order.toNat).pick.place):=by simp [Zas,e,Xf,hd]
    rw [hG,hV];refine ZdQ (.cons 0 (.cons 1 (.cons 2 (.cons 3 (.cons 4 (.cons 5 .nil .nil) .nil) (.cons 4 (.cons 3 (.cons 5 .nil .nil) .nil) .nil)) (.cons 4 (.cons 2 (.cons 3 (.cons 5 .nil .nil) .nil) .nil) .nil)) (.cons 4 (.cons 1 (.cons 2 (.cons 3 (.cons 5 .nil .nil) .nil) .nil) .nil) .nil)) (.cons 1 (.cons 0 (.cons 2 (.cons 3 (.cons 4 (.cons 5 .nil .nil) .nil) (.cons 4 (.cons 3 (.cons 5 .nil .nil) .nil) .nil)) (.cons 4 (.cons 2 (.cons 3 (.cons 5 .nil .nil) .nil) .nil) .nil)) (.cons 2 (.cons 0 (.cons 3 (.cons 4 (.cons 5 .nil .nil) .nil) (.cons 4 (.cons 3 (.cons 5 .nil .nil) .nil) .nil)) (.cons 3 (.cons 0 (.cons 4 (.cons 5 .nil .nil) .nil) .nil) .nil)) .nil)) .nil)) mixed (by kernel_rfl) ?_
    simp (disch:=omega) only [go_sem,seval]
    repeat' first
     | refine Zbj ?_ ?_
     | exact we
     | simp (disch:=omega) only [go_sem,seval]
def WC (x:Inst) (r:Rte):Bool:=(decide (0<=r.typ)&&decide (r.typ<(x.types.length:Int))&&decide (0<=r.start)&&decide (r.start<=4096)&&decide (r.visits.length<=20))&&r.visits.all (Zas x)
theorem Zae (x:Inst) (r:Rte) (ho:x.orders.length<=1048576) (ht:x.types.length<=1048576) (hl:r.visits.length<=1048576):PC 248 [.p (Zt x),.p (Wr r)] (.bool (WC x r)):=by
 refine Za Tryz.func248 rfl Zte ?_;simp (disch:=omega) only [Tryz.f248,go_sem,seval];refine gF ?_ ?_<;>intro h1<;>simp (disch:=omega) only [Sh.out h1,go_sem,seval]
 ·simp [WC];omega
 ·refine gF ?_ ?_<;>intro h2<;>simp (disch:=omega) only [Sh.out h2,go_sem,seval]
  ·simp [WC];omega
  ·refine gF ?_ ?_<;>intro h3<;>simp (disch:=omega) only [Sh.out h3,go_sem,seval]
   ·simp [WC];omega
   ·refine gF ?_ ?_<;>intro h4<;>simp (disch:=omega) only [Sh.out h4,go_sem,seval]
    ·simp [WC];omega
    ·refine cD ?_ ?_<;>intro h5<;>simp (disch:=omega) only [Sh.out h5,go_sem,seval]
     ·simp [WC];omega
     ·refine Zf [2,3] (fun k:Nat=> [(5,.p (.int .i64 k))]) (fun _=> [Zc x,ZB r]) (fun k=>k<=r.visits.length/\ ∀j,j<k->Zas x (nth r.visits j)=true) (fun k=>r.visits.length-k) 0 (by simp) (Weak.mk ?_) ?_
      ·simp (disch:=omega) only [Zc,ZB,go_sem,seval]
      ·rintro k ⟨hk,hno⟩;simp (disch:=omega) only [Zc,ZB,go_sem,seval];refine cD ?_ ?_<;>intro h<;>simp (disch:=omega) only [Sh.out h,go_sem,seval]
       ·have hk2:k<r.visits.length:=by omega
        refine ZP [10,11] 12 mixed (by kernel_rfl) (by kernel_rfl) (by kernel_rfl) (by simp) ?_;simp (disch:=omega) only [go_sem,seval];refine Wx (ZdM x (nth r.visits k) ho) ?_;simp (disch:=omega) only [go_sem,seval];refine ZC 10 _ _ (by kernel_rfl) (by simp (disch:=omega) only [go_sem,seval];exact ⟨rfl,rfl⟩) ?_;simp (disch:=omega) only [go_sem,seval];refine ZC 11 _ _ (by kernel_rfl) (by simp (disch:=omega) only [go_sem,seval];exact ⟨rfl,rfl⟩) (Xr ?_);simp (disch:=omega) only [go_sem,seval];refine cD ?_ ?_<;>intro h6<;>simp (disch:=omega) only [Sh.out h6,go_sem,seval]
        ·have:r.visits.all (Zas x)=false:=by
          rw [List.all_eq_false];exact ⟨nth r.visits k,Zp hk2,by simpa using h6⟩
         simp [WC,this]
        ·exact ⟨k+1,⟨by omega,Zi.2 ⟨hno,by simpa using h6⟩⟩,by omega,Weak.mk (by simp (disch:=omega) only [Zc,ZB,go_sem,seval])⟩
       ·have hkl:k=r.visits.length:=by omega
        subst hkl
        have:r.visits.all (Zas x)=true:=by
         rw [List.all_eq_true];intro v hv;obtain ⟨j,hj,rfl⟩:=List.mem_iff_getElem.1 hv;rw [<- Ze hj];exact hno j hj
        simp [WC,this];omega
@[go_sem high] theorem ZBm {k k':IntKind} {a b:Int} :ZjE false [.p (.int k a),.p (.int k' b)]=some (.int k (max a b)):=by
 simp only [ZjE]
 by_cases h:a<b
 ·simp [h];omega
 ·simp [h];omega
theorem ZeX {l:List Tim} {m:Tim} {d:Int} {b:Bool} :ZjW (l++ [m]) l.length d b=l++ [{ m with dep:=d,rest:=b }]:=by
 have:nth (l++ [m]) l.length=m:=by rw [Ze (by simp)];simp
 rw [ZjW,this];simp
theorem ZgC {x:Inst} {t:Typ} {sp:List Stp} {k:Nat} {d s m:Int} {h:She} (hk:k<sp.length) (ho:(nth sp k).opn<=(nth sp k).cls) (hm:h.miles=m) :
  (UP x t ⟨Qq t sp k,d,s,m⟩ (nth sp k).place (nth sp k).cls 14).2=(Vy t sp k (goL x t sp k d) d s h).2 /\
  ((Vy t sp k (goL x t sp k d) d s h).2=0->(UP x t ⟨Qq t sp k,d,s,m⟩ (nth sp k).place (nth sp k).cls 14).1=⟨(nth sp k).place,(goL x t sp k d).1,s+(goL x t sp k d).1-d,m+(goL x t sp k d).2.1⟩ /\
   (Vy t sp k (goL x t sp k d) d s h).1=⟨max (goL x t sp k d).1 (nth sp k).opn+(nth sp k).serv,s+(goL x t sp k d).1-d,{ h with times_c:=false,times:=h.times++ [⟨(goL x t sp k d).1,max (goL x t sp k d).1 (nth sp k).opn,0,false⟩],miles:=m+(goL x t sp k d).2.1 }⟩):=by
 have hne: ¬k=sp.length:=by omega
 have e:goN x.net t.prof (Qq t sp k) (nth sp k).place d=goL x t sp k d:=by simp [goL,toF,hne]
 unfold UP Vy;simp only [e,if_neg hne];subst hm;generalize goL x t sp k d=g
 by_cases c1:g.2.2=0
 ·by_cases c2:(nth sp k).cls<g.1
  ·have c3:(nth sp k).cls<max g.1 (nth sp k).opn:=by omega
   simp [c1,c2,c3]
  ·have c3: ¬(nth sp k).cls<max g.1 (nth sp k).opn:=by omega
   by_cases c4:t.drive<s+g.1-d
   ·simp [c1,c2,c3,c4]
   ·simp [c1,c2,c3,c4]
 ·simp [c1]
theorem Zgq {x:Inst} {t:Typ} {sp:List Stp} {d s m:Int} {h:She} (hm:h.miles=m) :
  (UP x t ⟨Qq t sp sp.length,d,s,m⟩ t.dst t.cls 15).2=(Vy t sp sp.length (goL x t sp sp.length d) d s h).2 /\
  ((Vy t sp sp.length (goL x t sp sp.length d) d s h).2=0->(UP x t ⟨Qq t sp sp.length,d,s,m⟩ t.dst t.cls 15).1=⟨t.dst,(goL x t sp sp.length d).1,s+(goL x t sp sp.length d).1-d,m+(goL x t sp sp.length d).2.1⟩ /\
   (Vy t sp sp.length (goL x t sp sp.length d) d s h).1=⟨(goL x t sp sp.length d).1,s+(goL x t sp sp.length d).1-d,{ h with fin:=(goL x t sp sp.length d).1,miles:=m+(goL x t sp sp.length d).2.1 }⟩):=by
 have e:goN x.net t.prof (Qq t sp sp.length) t.dst d=goL x t sp sp.length d:=by simp [goL,toF]
 unfold UP Vy;simp only [e,if_true];subst hm;generalize goL x t sp sp.length d=g
 by_cases c1:g.2.2=0
 ·by_cases c2:t.cls<g.1
  ·simp [c1,c2]
  ·by_cases c4:t.drive<s+g.1-d
   ·simp [c1,c2,c4]
   ·simp [c1,c2,c4]
 ·simp [c1]
def Zx5 (s:StD):AM.Obj:= .cells [.p (.int .i64 s.place),.p (.int .i64 s.time),.p (.int .i64 s.driven),.p (.int .i64 s.miles)]
def JS (t:Typ) (sp:List Stp) (k:Nat) (L:Lab) (b:Bool):StD:=⟨Qq t sp k,ZW t L b,W3 L b,L.she.miles⟩
theorem ZBw {g:FuncId} {args:List V} {a c:PV} {H:List AM.Obj} {K:V->List AM.Obj->Prop} (h:ACalls Tryz.prog g args [] fun x H'=> ∃b:PV,x= .tup [.p a,.p b,.p c]/\H'= []) (k: ∀b:PV,K (.tup [.p a,.p b,.p c]) H) (ha:ZU 0 args=true:=by rfl):ACalls Tryz.prog g args H K :=
 (h.behind ha H).mono fun x H' hq=>by
  obtain ⟨y,H1,⟨b,rfl,rfl⟩,rfl,rfl⟩:=hq;simpa [shV,shVs] using k b
theorem Xi {x:Inst} {l:List Vis} :(ZA x l).length=l.length:=by simp [ZA]
theorem Kk {x:Inst} {l:List Vis} {k:Nat} (h:k<l.length):nth (ZA x l) k=Xf x (nth l k):=by
 rw [Ze (by simpa [ZA] using h),Ze h];simp [ZA]
theorem Znb (x:Inst) (r:Rte) (rests:List Bool) (c:Bool) (hok:TrpOk x (Z2 x r) (ZA x r.visits)) (ho:x.orders.length<=1048576) (ht:x.types.length<=1048576) (hne:0<r.visits.length) (hp:WC x r=true) (hl:rests.length=r.visits.length+1) :
  ACalls Tryz.prog 257 [.p (Zt x),.p (Wr r),.p (.list c (rests.map eB))] [] fun y H'=> ∃d:PV,y= .tup [.p (Zhg (XV x (Z2 x r) (ZA x r.visits) 0 (labF (Z2 x r) r.start) rests).1.she),.p d,.p (.int .i64 (XV x (Z2 x r) (ZA x r.visits) 0 (labF (Z2 x r) r.start) rests).2)]/\H'= []:=by
 have hp2:=hp;simp only [WC,Bool.and_eq_true,decide_eq_true_eq] at hp2;obtain ⟨⟨⟨⟨⟨p1,p2⟩,p3⟩,p4⟩,p5⟩,p6⟩:=hp2;have hvis: ∀k,k<r.visits.length->Zas x (nth r.visits k)=true:=fun k hk=>List.all_eq_true.1 p6 _ (Zp hk)
 have hstop: ∀k,k<r.visits.length->KY x (nth r.visits k)=nth (ZA x r.visits) k:=fun k hk=>by
  have:=hvis k hk;simp only [Zas,Bool.and_eq_true] at this;rw [KY,if_pos this.1,Kk hk]
 have hti:r.typ.toNat<x.types.length:=by omega
 have hopn:=hok.opn;have hrst:=hok.rst;have htd:Z2 x r=nth x.types r.typ.toNat:=rfl
 generalize hT:Z2 x r=t at *
 have hsl:(ZA x r.visits).length=r.visits.length:=Xi
 generalize hS:ZA x r.visits=sp at *
 refine Zb [26] Tryz.func257 rfl Zwm ?_;simp (disch:=omega) only [Tryz.f257,go_sem,seval];refine (Zae x r ho ht (by omega)).use ?_;simp (disch:=omega) only [go_sem,seval];rw [hp];simp (disch:=omega) only [go_sem,seval];refine cD ?_ ?_<;>intro h0<;>simp (disch:=omega) only [Sh.out h0,<- htd,go_sem,seval]
 ·omega
 ·refine ZP [13] 14 mixed (by kernel_rfl) (by kernel_rfl) (by kernel_rfl) (by simp) ?_;simp (disch:=omega) only [go_sem,seval];refine Zj (ZdB t ⟨t.src,max t.opn r.start,0,0⟩ (nth rests 0) (by simp only;omega)) ?_;simp (disch:=omega) only [go_sem,seval];refine ZC 13 _ _ (by kernel_rfl) (by simp (disch:=omega) only [go_sem,seval];exact ⟨rfl,rfl⟩) (Xr ?_);simp (disch:=omega) only [go_sem,seval];refine ZP [6] 7 mixed (by kernel_rfl) (by kernel_rfl) (by kernel_rfl) (by simp) ?_;simp (disch:=omega) only [go_sem,seval];refine ZC 6 _ _ (by kernel_rfl) (by simp (disch:=omega) only [go_sem,seval];exact ⟨rfl,rfl⟩) (Xr ?_)
  simp (disch:=omega) only [go_sem,seval];have hL0:LabR 0 (labF t r.start):=⟨by simp only [labF];omega,by simp [labF],by simp [labF,zShe]⟩
  have hS0:Zdo t ⟨t.src,max t.opn r.start,0,0⟩ (nth rests 0)=JS t sp 0 (labF t r.start) (nth rests 0):=by
   simp only [Zdo,JS,Qq,ZW,W3,labF,zShe,if_true]
   split<;>rfl
  simp (disch:=omega) only [hS0,go_sem,seval]
  refine ZE [26] [2,3,4,6,9,10,11] (fun q:Nat×Lab×List Int=> [(12,.sl 7 0 q.2.2.length q.2.2.length),(13,.p (.int .i64 q.1))])
   (fun q=> [Zc x,ZB r,.cells [.p (.bool false),.p (.int .i64 0),.p (.list true []),.p (.int .i64 0),.p (.int .i64 0)],Xk t,Zx5 (JS t sp q.1 q.2.1 (nth rests q.1)),
    .cells [.p (.bool (Xx q.1 (ZW t q.2.1 (nth rests q.1)) (nth rests q.1) q.2.1.she).rest),.p (.int .i64 (Xx q.1 (ZW t q.2.1 (nth rests q.1)) (nth rests q.1) q.2.1.she).dep),.sl 6 0 (Xx q.1 (ZW t q.2.1 (nth rests q.1)) (nth rests q.1) q.2.1.she).times.length (Xx q.1 (ZW t q.2.1 (nth rests q.1)) (nth rests q.1) q.2.1.she).times.length,.p (.int .i64 0),.p (.int .i64 0)],
    .elems 4 ((Xx q.1 (ZW t q.2.1 (nth rests q.1)) (nth rests q.1) q.2.1.she).times.map eTim),.elems 1 (q.2.2.map eI)])
   (fun q=>q.1<=r.visits.length/\XV x t sp 0 (labF t r.start) rests=XV x t sp q.1 q.2.1 (rests.drop q.1)/\LabR q.1 q.2.1/\q.2.1.she.times.length=q.1/\q.2.1.she.fin=0/\(0<q.1->q.2.1.she.times_c=false)/\q.2.2.length=q.1) (fun q=>r.visits.length-q.1) (0,labF t r.start,[])
   ⟨by simp,by simp,hL0,by simp [labF,zShe],by simp [labF,zShe],by simp,by simp⟩ ((Weak.nilC (o:=5) (j:=2) 4 rfl rfl (by simp)).trans (Weak.ofNil 12 1 rfl (by simp) (Weak.mk ?_))) ?_
  ·simp (disch:=omega) only [Zc,ZB,Xk,Zx5,JS,Qq,Xx,labF,zShe,List.map_nil,List.length_nil,List.set_cons_succ,List.set_cons_zero,List.cons_append,List.nil_append,go_sem,seval]
  ·rintro ⟨k,L,ds⟩ ⟨hk,hrun,hL,hlen,hfin,hclip,hds⟩;simp only at hk hrun hL hlen hfin hclip hds
   have hmlen:(Xx k (ZW t L (nth rests k)) (nth rests k) L.she).times.length=k:=by rw [Ub];exact hlen
   have hd:=VK hok hL (nth rests k);have hs:=K5 hL (nth rests k);have hg:=Zcu hok hL (nth rests k);have hmi:=hL.mil
   generalize hm:Xx k (ZW t L (nth rests k)) (nth rests k) L.she=m at *
   have hmm:m.miles=L.she.miles:=by rw [<- hm,Vv]
   have hmf:m.fin=0:=by rw [<- hm,Zbs,hfin]
   have hdrop:rests.drop k=nth rests k::rests.drop (k+1):=by rw [List.drop_eq_getElem_cons (by omega),Ze (by omega)]
   have hnx:nxtF x t sp k L (nth rests k)=Vy t sp k (goL x t sp k (ZW t L (nth rests k))) (ZW t L (nth rests k)) (W3 L (nth rests k)) m:=by rw [nxtF,hm]
   rw [hdrop,XV] at hrun;simp (disch:=omega) only [Zc,ZB,Xk,Zx5,go_sem,seval];refine cD ?_ ?_<;>intro h<;>simp (disch:=omega) only [Sh.out h,go_sem,seval]
   ·have hk2:k<r.visits.length:=by omega
    have hsp:=hok.stp _ (Zv (show k<sp.length by omega));refine ZP [10,11] 12 mixed (by kernel_rfl) (by kernel_rfl) (by kernel_rfl) (by simp) ?_;simp (disch:=omega) only [go_sem,seval];refine Wx (ZdM x (nth r.visits k) ho) ?_;simp (disch:=omega) only [go_sem,seval];refine ZC 10 _ _ (by kernel_rfl) (by simp (disch:=omega) only [go_sem,seval];exact ⟨rfl,rfl⟩) ?_;simp (disch:=omega) only [go_sem,seval];refine ZC 11 _ _ (by kernel_rfl) (by simp (disch:=omega) only [go_sem,seval];exact ⟨rfl,rfl⟩) (Xr ?_);simp (disch:=omega) only [hstop k hk2,go_sem,seval]
    obtain ⟨f1,f2⟩:=ZgC (x:=x) (t:=t) (d:=ZW t L (nth rests k)) (s:=W3 L (nth rests k)) (h:=m) (show k<sp.length by omega) hsp.2.1 hmm
    have he2:goN x.net t.prof (Qq t sp k) (nth sp k).place (ZW t L (nth rests k))=goL x t sp k (ZW t L (nth rests k)):=by
     have hne: ¬k=sp.length:=by omega
     simp [goL,toF,hne]
    refine Xs (Zev x t (JS t sp k L (nth rests k)) (nth sp k).place (nth sp k).cls 14 hok.net ?_ ?_ ?_ ?_) ?_
    ·simp only [JS];omega
    ·simp only [JS,Sml];omega
    ·simp only [JS,Sml];omega
    ·simp only [JS,Sml];rw [he2];omega
    have f1':(UP x t (JS t sp k L (nth rests k)) (nth sp k).place (nth sp k).cls 14).2=(nxtF x t sp k L (nth rests k)).2:=by rw [hnx,<- f1];rfl
    simp (disch:=omega) only [go_sem,seval];rw [f1'];refine cD ?_ ?_<;>intro h3<;>simp (disch:=omega) only [Sh.out h3,go_sem,seval]
    ·rw [if_neg h3] at hrun;rw [hrun];simp only [W0,zShe];exact ⟨_,_,Weak.mk (by simp (disch:=omega) only [List.map_nil,go_sem,seval]),.list true [],rfl,rfl⟩
    ·have h3':(nxtF x t sp k L (nth rests k)).2=0:=Classical.not_not.1 h3;rw [if_pos h3'] at hrun;have hL':=Zc9 hok (by omega) hL h3';rw [hnx] at h3';obtain ⟨f3,f4⟩:=f2 h3';have f3':(UP x t (JS t sp k L (nth rests k)) (nth sp k).place (nth sp k).cls 14).1=⟨(nth sp k).place,(goL x t sp k (ZW t L (nth rests k))).1,W3 L (nth rests k)+(goL x t sp k (ZW t L (nth rests k))).1-ZW t L (nth rests k),L.she.miles+(goL x t sp k (ZW t L (nth rests k))).2.1⟩:=f3
     have hL2:(nxtF x t sp k L (nth rests k)).1=⟨max (goL x t sp k (ZW t L (nth rests k))).1 (nth sp k).opn+(nth sp k).serv,W3 L (nth rests k)+(goL x t sp k (ZW t L (nth rests k))).1-ZW t L (nth rests k),{ m with times_c:=false,times:=m.times++ [⟨(goL x t sp k (ZW t L (nth rests k))).1,max (goL x t sp k (ZW t L (nth rests k))).1 (nth sp k).opn,0,false⟩],miles:=L.she.miles+(goL x t sp k (ZW t L (nth rests k))).2.1 }⟩:=by rw [hnx];exact f4
     simp (disch:=omega) only [f3',go_sem,seval];refine ZP [13] 14 mixed (by kernel_rfl) (by kernel_rfl) (by kernel_rfl) (by simp) ?_;simp (disch:=omega) only [go_sem,seval];refine ZC 13 _ _ (by kernel_rfl) (by simp (disch:=omega) only [go_sem,seval];exact ⟨rfl,rfl⟩) (Xr ?_);simp (disch:=omega) only [go_sem,seval]
     generalize (nxtF x t sp k L (nth rests k)).1=L2 at *
     have hS1:Zdo t ⟨(nth sp k).place,max (goL x t sp k (ZW t L (nth rests k))).1 (nth sp k).opn+(nth sp k).serv,W3 L (nth rests k)+(goL x t sp k (ZW t L (nth rests k))).1-ZW t L (nth rests k),L.she.miles+(goL x t sp k (ZW t L (nth rests k))).2.1⟩ (nth rests (k+1))=JS t sp (k+1) L2 (nth rests (k+1)):=by
      rw [hL2];simp only [Zdo,JS,Qq,ZW,W3,Nat.add_sub_cancel,if_neg (show ¬k+1=0 by omega)]
      split<;>rfl
     have hM:Xx (k+1) (ZW t L2 (nth rests (k+1))) (nth rests (k+1)) L2.she= { m with times_c:=false,times:=m.times++ [⟨(goL x t sp k (ZW t L (nth rests k))).1,max (goL x t sp k (ZW t L (nth rests k))).1 (nth sp k).opn,ZW t L2 (nth rests (k+1)),nth rests (k+1)⟩],miles:=L.she.miles+(goL x t sp k (ZW t L (nth rests k))).2.1 } :=by
      have he:L2.she= { m with times_c:=false,times:=m.times++ [⟨(goL x t sp k (ZW t L (nth rests k))).1,max (goL x t sp k (ZW t L (nth rests k))).1 (nth sp k).opn,0,false⟩],miles:=L.she.miles+(goL x t sp k (ZW t L (nth rests k))).2.1 } :=by rw [hL2]
      rw [he,Xx,if_neg (by omega),Nat.add_sub_cancel];simp only [<- hmlen,ZeX]
     have hd2:=VK hok hL' (nth rests (k+1));refine Zn 8 mixed (by kernel_rfl) (by kernel_rfl) ?_;simp (disch:=omega) only [go_sem,seval];refine Zj (ZdB t ⟨(nth sp k).place,max (goL x t sp k (ZW t L (nth rests k))).1 (nth sp k).opn+(nth sp k).serv,W3 L (nth rests k)+(goL x t sp k (ZW t L (nth rests k))).1-ZW t L (nth rests k),L.she.miles+(goL x t sp k (ZW t L (nth rests k))).2.1⟩ (nth rests (k+1)) (by simp only;omega)) ?_;simp (disch:=omega) only [go_sem,seval];simp (disch:=omega) only [hS1,go_sem,seval];refine ⟨(k+1,L2,ds++ [L2.since]),⟨by simp only;omega,hrun,hL',by rw [hL2];simp [hmlen],by rw [hL2];exact hmf,by rw [hL2];simp,by simp [hds]⟩,by simp only;omega,Weak.mk ?_⟩
     simp (disch:=omega) only [hM,Zc,ZB,Xk,Zx5,hmlen,List.length_append,List.length_cons,List.length_nil,List.map_append,List.map_cons,List.map_nil,go_sem,seval];exact ⟨rfl,by rw [show L2.since=W3 L (nth rests k)+(goL x t sp k (ZW t L (nth rests k))).1-ZW t L (nth rests k) by rw [hL2]]⟩
   ·have hkl:k=sp.length:=by omega
    subst hkl;obtain ⟨f1,f2⟩:=Zgq (x:=x) (t:=t) (sp:=sp) (d:=ZW t L (nth rests sp.length)) (s:=W3 L (nth rests sp.length)) (h:=m) hmm
    have he2:goN x.net t.prof (Qq t sp sp.length) t.dst (ZW t L (nth rests sp.length))=goL x t sp sp.length (ZW t L (nth rests sp.length)):=by simp [goL,toF]
    refine Xs (Zev x t (JS t sp sp.length L (nth rests sp.length)) t.dst t.cls 15 hok.net ?_ ?_ ?_ ?_) ?_
    ·simp only [JS];omega
    ·simp only [JS,Sml];omega
    ·simp only [JS,Sml];omega
    ·simp only [JS,Sml];rw [he2];omega
    have f1':(UP x t (JS t sp sp.length L (nth rests sp.length)) t.dst t.cls 15).2=(nxtF x t sp sp.length L (nth rests sp.length)).2:=by rw [hnx,<- f1];rfl
    simp (disch:=omega) only [go_sem,seval];rw [f1'];have hdl:rests.drop (sp.length+1)= []:=List.drop_eq_nil_of_le (by omega);rw [hdl,XV] at hrun;refine cD ?_ ?_<;>intro h3<;>simp (disch:=omega) only [Sh.out h3,go_sem,seval]
    ·rw [if_neg h3] at hrun;rw [hrun];simp only [W0,zShe];exact ⟨_,_,Weak.mk (by simp (disch:=omega) only [List.map_nil,go_sem,seval]),.list true [],rfl,rfl⟩
    ·have h3':(nxtF x t sp sp.length L (nth rests sp.length)).2=0:=Classical.not_not.1 h3;rw [if_pos h3'] at hrun;rw [hnx] at h3';obtain ⟨f3,f4⟩:=f2 h3';have f3':(UP x t (JS t sp sp.length L (nth rests sp.length)) t.dst t.cls 15).1=⟨t.dst,(goL x t sp sp.length (ZW t L (nth rests sp.length))).1,W3 L (nth rests sp.length)+(goL x t sp sp.length (ZW t L (nth rests sp.length))).1-ZW t L (nth rests sp.length),L.she.miles+(goL x t sp sp.length (ZW t L (nth rests sp.length))).2.1⟩:=f3;rw [hrun,hnx,f4];simp (disch:=omega) only [f3',go_sem,seval];refine Zm (Weak.fz (o:=6) (by rfl)) ?_
     refine Zm (Weak.fz (o:=7) (by rfl)) ?_;refine Zd [] _ _ _ _ ?_;simp (disch:=omega) only [List.map_cons,List.map_nil,List.set_cons_succ,List.set_cons_zero,go_sem,seval]
     have hmc:m.times_c=false:=by
      rw [<- hm,<- hclip (by omega)];unfold Xx
      split<;>rfl
     exact ⟨_,_,Weak.mk (by simp (disch:=omega) only [hmc,go_sem,seval]),.list false (ds.map eI++ [.int .i64 (W3 L (nth rests sp.length)+(goL x t sp sp.length (ZW t L (nth rests sp.length))).1-ZW t L (nth rests sp.length))]),rfl,rfl⟩
theorem Zoe (x:Inst) (r:Rte) (rests:List Bool) (c:Bool) (hok:TrpOk x (Z2 x r) (ZA x r.visits)) (ho:x.orders.length<=1048576) (ht:x.types.length<=1048576) (hne:0<r.visits.length) (hp:WC x r=true) (hl:rests.length=r.visits.length+1) :
  PT 249 [.p (Zt x),.p (Wr r),.p (.list c (rests.map eB))] [.p (Zhg (XV x (Z2 x r) (ZA x r.visits) 0 (labF (Z2 x r) r.start) rests).1.she),.p (.int .i64 (XV x (Z2 x r) (ZA x r.visits) 0 (labF (Z2 x r) r.start) rests).2)]:=by
 have cr:=Znb x r rests c hok ho ht hne hp hl;generalize (XV x (Z2 x r) (ZA x r.visits) 0 (labF (Z2 x r) r.start) rests)=q at cr ⊢;obtain ⟨L,e⟩:=q;refine Zb [] Tryz.func249 rfl ZtQ ?_;simp (disch:=omega) only [Tryz.f249,go_sem,seval];refine ZBw cr fun d=> ?_;simp (disch:=omega) only [go_sem,seval];exact we
def ZbB (l:List Bool) (n:Nat):Option (List Bool):=(Xz (l.drop n)).map (l.take n++ ·)
def Zpa : Option (List Bool)->PV
 | some l=> .list false (l.map eB)
 | none=> .list true []
theorem Vx : ∀m:Nat,Xz (List.replicate m true)=none
 | 0=>rfl
 | m+1=>by rw [List.replicate_succ,Xz,Vx m];rfl
theorem ZaH : ∀(a b r:List Bool),Xz b=some r->Xz (a++b)=some (a++r)
 | [],b,r,h=>h
 | x::a,b,r,h=>by rw [List.cons_append,Xz,ZaH a b r h];rfl
theorem Zkj (a:List Bool) (m:Nat):Xz (a++false::List.replicate m true)=some (a++true::List.replicate m false):=by
 refine ZaH _ _ _ ?_;rw [Xz,Vx];simp
theorem Zdy {o:List Bool} {i:Nat} {b:Bool} :(o.map eB).set i (.bool b)=(o.set i b).map eB:=by rw [List.map_set];rfl
theorem Zls (l:List Bool) (c:Bool) (n:Nat) (hn:n<=l.length) (h0:0<l.length) (hl:l.length<=1048576):PT 250 [.p (.list c (l.map eB)),.p (.int .i64 (n:Nat))] [.p (Zpa (ZbB l n)),.p (.bool (ZbB l n).isSome)]:=by
 refine Zb [8] Tryz.func250 rfl ZqW ?_;simp (disch:=omega) only [Tryz.f250,go_sem,seval];rw [if_pos ⟨by omega,by omega⟩];simp (disch:=omega) only [go_sem,seval];refine ZE [8] [1] (fun q:Nat×List Bool=> [(6,.sl 0 0 q.2.length q.2.length),(7,.p (.int .i64 ((q.1:Int)-1)))]) (fun q=> [.elems 1 (q.2.map eB)]) (fun q=>n<=q.1/\q.1<=l.length/\q.2=l.take q.1++List.replicate (l.length-q.1) false/\l.drop q.1=List.replicate (l.length-q.1) true) (fun q=>q.1) (l.length,l) (by simp;omega) (Weak.mk ?_) ?_
 ·simp (disch:=omega) only [go_sem,seval]
 ·rintro ⟨j,o⟩ ⟨hj1,hj2,ho,hjt⟩;simp only at hj1 hj2 ho hjt
  have hol:o.length=l.length:=by rw [ho];simp;omega
  simp (disch:=omega) only [go_sem,seval];refine cD ?_ ?_<;>intro h<;>simp (disch:=omega) only [Sh.out h,go_sem,seval]
  ·obtain ⟨i,rfl⟩: ∃i,j=i+1:=⟨j-1,by omega⟩
   have hij:(((i+1:Nat):Int)-1)=(i:Int):=by omega
   have hat:nth o i=nth l i:=by
    rw [Ze (by omega),Ze (by omega)];simp only [ho];rw [List.getElem_append_left (by simp;omega)];simp
   have hdr:l.drop i=nth l i::List.replicate (l.length-(i+1)) true:=by
    rw [List.drop_eq_getElem_cons (by omega),hjt,Ze (by omega)]
   have hio:i<o.length:=by omega
   simp (disch:=first | omega | (simp only [List.length_cons,List.length_nil,List.length_append,List.length_map,List.length_take,List.length_drop]<;>omega)) only [Int.add_sub_cancel,XJ,hat,hio,go_sem,seval];refine cD ?_ ?_<;>intro h2<;>simp (disch:=omega) only [Sh.out h2,go_sem,seval]
   ·have hf:nth l i=false:=by simpa using h2
    have hres:ZbB l n=some (o.set i true):=by
     rw [hf] at hdr
     have e:l.drop n=(l.drop n).take (i-n)++false::List.replicate (l.length-(i+1)) true:=by
      rw [<- hdr,show l.drop i=(l.drop n).drop (i-n) by rw [List.drop_drop];congr 1;omega,List.take_append_drop]
     rw [ZbB,e,Zkj,ho];simp only [Option.map_some,Option.some.injEq]
     have e2:l.take (i+1)=l.take n++(l.drop n).take (i-n)++ [nth l i]:=by
      rw [List.take_succ_eq_append_getElem (by omega),Ze (by omega)]
      congr 1
      have:l.take i=l.take (n+(i-n)):=by congr 1;omega
      rw [this,List.take_add]
     rw [e2,hf]
     have el:(l.take n++(l.drop n).take (i-n)).length=i:=by simp;omega
     rw [List.append_assoc (l.take n++(l.drop n).take (i-n)),List.set_append_right _ _ (by omega),el];simp
    rw [hres];simp (disch:=first | omega | (simp only [List.length_cons,List.length_nil,List.length_append,List.length_map,List.length_take,List.length_drop]<;>omega)) only [hio,Zdy,go_sem,seval];refine Zm (Weak.fz (o:=0) (by rfl)) ?_;refine Zd [] _ _ _ _ ?_;simp (disch:=omega) only [List.map_cons,List.map_nil,List.set_cons_succ,List.set_cons_zero,go_sem,seval];simp only [List.length_set,List.length_map,if_true];exact we (by simp (disch:=omega) only [Zpa,Option.isSome_some,go_sem,seval])
   ·have hf:nth l i=true:=by simpa using h2
    simp (disch:=first | omega | (simp only [List.length_cons,List.length_nil,List.length_append,List.length_map,List.length_take,List.length_drop]<;>omega)) only [hio,Zdy,go_sem,seval];refine ⟨(i,o.set i false),⟨by simp only;omega,by simp only;omega,?_,?_⟩,by simp only;omega,Weak.mk (by simp (disch:=first | omega | (simp only [List.length_cons,List.length_nil,List.length_append,List.length_map,List.length_take,List.length_drop]<;>omega)) only [List.length_set,Int.add_sub_cancel,go_sem,seval])⟩
    ·simp only;rw [ho,show l.length-i=(l.length-(i+1))+1 by omega,List.replicate_succ,List.take_succ_eq_append_getElem (by omega),List.append_assoc,List.set_append_right _ _ (by simp;omega),show i-(l.take i).length=0 by simp;omega];simp
    ·simp only;rw [hdr,hf,show l.length-i=(l.length-(i+1))+1 by omega,List.replicate_succ]
  ·have hjn:j=n:=by omega
   have hres:ZbB l n=none:=by rw [ZbB,<- hjn,hjt,Vx];rfl
   rw [hres];exact we (by simp (disch:=omega) only [Zpa,Option.isSome_none,go_sem,seval])
theorem Zg9 {r q:List Bool} :ZbB (r++q) r.length=(Xz q).map (r++ ·):=by simp [ZbB]
theorem Zg2 {l:List Bool} :Zpa (some l)= .list false (l.map eB):=rfl
theorem Zhc : Zpa none= .list true []:=rfl
def ZfR (b:Option Lab):She:=match b with | some L=>L.she | none=>zShe
def Zja (r:List Bool) (cur:Option (List Bool)):List (List Bool):=match cur with | some q=>(Yg q).map (r++ ·) | none=> []
theorem Jx {r s:List Bool} :Zja r (some s)=(r++s)::Zja r (Xz s):=by
 unfold Zja;simp only;rw [fromB_next s,List.map_cons]
 cases Xz s<;>rfl
theorem ZdH {x:Inst} {t:Typ} {sp:List Stp} : ∀(bs:List Bool) (k:Nat) (L:Lab),¬(XV x t sp k L bs).2=0->(XV x t sp k L bs).1=W0
 | [],k,L,h=>by simp [XV] at h
 | b::bs,k,L,h=>by
  rw [XV] at h ⊢
  split
  ·rename_i c;rw [if_pos c] at h;exact ZdH bs _ _ h
  ·rfl
theorem ZjM (x:Inst) (r:Rte) (hok:TrpOk x (Z2 x r) (ZA x r.visits)) (ho:x.orders.length<=1048576) (ht:x.types.length<=1048576) (hne:0<r.visits.length) (hp:WC x r=true) (hl:r.rests.length<=r.visits.length+1) :
  PT 230 [.p (Zt x),.p (Wr r)] [.p (Zhg (Xd x r).1),.p (.int .i64 (Xd x r).2)]:=by
 have hsl:(ZA x r.visits).length=r.visits.length:=Xi;have hp2:=hp;simp only [WC,Bool.and_eq_true,decide_eq_true_eq] at hp2;have hv20:=hp2.1.2;have hrun:=fun rests (c:Bool) (h:rests.length=r.visits.length+1)=>Zoe x r rests c hok ho ht hne hp h;have hopt:=fun bs=>Wk (x:=x) (t:=Z2 x r) (sp:=ZA x r.visits) bs 0 (labF (Z2 x r) r.start);unfold Xd VN
 generalize hS:ZA x r.visits=sp at *
 generalize Z2 x r=t at *
 generalize labF t r.start=L0 at *
 refine Zb [5,6] Tryz.func230 rfl ZlN ?_;simp (disch:=omega) only [Tryz.f230,go_sem,seval];refine (Zae x r ho ht (by omega)).use ?_;simp (disch:=omega) only [go_sem,seval];rw [hp];simp (disch:=omega) only [go_sem,seval];refine cD ?_ ?_<;>intro h0<;>simp (disch:=omega) only [Sh.out h0,go_sem,seval]
 ·omega
 ·refine XW (Zc8 3 rfl rfl ?_);simp (disch:=omega) only [go_sem,seval];refine ⟨_,_,Zdt (e:=4) rfl Tryz.underlying42 (by kernel_rfl) rfl rfl rfl ?_ ?_ ?_,?_⟩
  ·simp
  ·simp;omega
  ·intro q hq;obtain ⟨b,_,rfl⟩:=List.mem_map.1 hq
   rfl
  ·have hpl:(Va r.rests (sp.length+1)).length=r.visits.length+1:=by simp [Va];omega
   have hpad:r.rests.map eB++(PV.bool false::List.replicate r.visits.length (PV.bool false)).drop (r.rests.map eB).length=(Va r.rests (sp.length+1)).map eB:=by
    rw [Va,List.map_append,<- List.replicate_succ,List.drop_replicate,List.map_replicate,hsl,List.length_map];rfl
   simp only [List.set_cons_succ,List.set_cons_zero];rw [hpad];have h0r:=hopt (Va r.rests (sp.length+1))
   have cn: ∀s:List Bool,(r.rests++s).length=r.visits.length+1->PT 250 [.p (.list false ((r.rests++s).map eB)),.p (.int .i64 (r.rests.length:Nat))] [.p (Zpa ((Xz s).map (r.rests++ ·))),.p (.bool ((Xz s).map (r.rests++ ·)).isSome)]:=fun s hs=>by
    have:=Zls (r.rests++s) false r.rests.length (by simp) (by omega) (by omega);rwa [Zg9] at this
   have e1:(XV x t sp 0 L0 (Va r.rests (sp.length+1))).1.she=ZfR (Uw (X3 x t sp) 0 L0 (Va r.rests (sp.length+1))):=by
    rw [h0r]
    split
    ·rfl
    ·rename_i c;rw [ZdH _ _ _ c];rfl
   have e2:decide ((XV x t sp 0 L0 (Va r.rests (sp.length+1))).2=0)=(Uw (X3 x t sp) 0 L0 (Va r.rests (sp.length+1))).isSome:=by
    rw [h0r]
    split
    ·rename_i c;simp [c]
    ·rename_i c;simp [c]
   have hrp:=hrun (Va r.rests (sp.length+1)) false hpl;have hall:YG r.rests (sp.length+1)=Zja r.rests (some (List.replicate (sp.length+1-r.rests.length) false)):=rfl;refine Zm (Weak.fz (o:=3) (by rfl)) ?_;refine Zd [] _ _ _ _ ?_;simp (disch:=omega) only [List.map_cons,List.map_nil,List.set_cons_succ,List.set_cons_zero,go_sem,seval];rw [if_pos hpl];refine Xs hrp ?_;simp (disch:=omega) only [go_sem,seval];refine Xs (cn (List.replicate (sp.length+1-r.rests.length) false) hpl) ?_;simp (disch:=omega) only [e1,e2,go_sem,seval]
   have hfm:fmL WZ none ((YG r.rests (sp.length+1)).filterMap (Uw (X3 x t sp) 0 L0))=fmL WZ (Uw (X3 x t sp) 0 L0 (Va r.rests (sp.length+1))) ((Zja r.rests (Xz (List.replicate (sp.length+1-r.rests.length) false))).filterMap (Uw (X3 x t sp) 0 L0)):=by
    rw [hall,Jx,List.filterMap_cons];rw [show r.rests++List.replicate (sp.length+1-r.rests.length) false=Va r.rests (sp.length+1) from rfl]
    cases Uw (X3 x t sp) 0 L0 (Va r.rests (sp.length+1)) with
    | none=>rfl
    | some L=>rfl
   clear hall;generalize fmL WZ none ((YG r.rests (sp.length+1)).filterMap (Uw (X3 x t sp) 0 L0))=res at hfm ⊢;generalize (XV x t sp 0 L0 (Va r.rests (sp.length+1))).2=err0
   refine Zf [2,3,4,8,9] (fun q:Option (List Bool)×Option Lab=> [(7,.p (Zpa (q.1.map (r.rests++ ·)))),(10,.p (.bool q.2.isSome)),(11,.p (.bool (q.1.map (r.rests++ ·)).isSome))])
    (fun q=> [Zc x,ZB r,.cells [.p (.bool false),.p (.int .i64 0),.p (.list true []),.p (.int .i64 0),.p (.int .i64 0)],.dead,.cells [.p (.bool (ZfR q.2).rest),.p (.int .i64 (ZfR q.2).dep),.p (.list (ZfR q.2).times_c ((ZfR q.2).times.map eTim)),.p (.int .i64 (ZfR q.2).fin),.p (.int .i64 (ZfR q.2).miles)]])
    (fun q=>res=fmL WZ q.2 ((Zja r.rests q.1).filterMap (Uw (X3 x t sp) 0 L0))/\ ∀s,q.1=some s->s.length=sp.length+1-r.rests.length) (fun q=>(Zja r.rests q.1).length)
    (Xz (List.replicate (sp.length+1-r.rests.length) false),Uw (X3 x t sp) 0 L0 (Va r.rests (sp.length+1))) ⟨hfm,fun s hs=>by have:=fromB_next.nlen _ _ hs;simpa using this⟩ (Weak.mk ?_) ?_
   ·simp (disch:=omega) only [Zc,ZB,go_sem,seval]
   ·rintro ⟨cur,b⟩ ⟨hR,hcl⟩;simp only at hR hcl
    cases cur with
    | none =>
     simp only [Zja,List.filterMap_nil] at hR;simp (disch:=omega) only [Option.map_none,Option.isSome_none,Zhc,Zc,ZB,go_sem,seval]
     cases b with
     | none =>
      rw [fmL] at hR;subst hR;simp (disch:=omega) only [Option.isSome_none,Bool.not_false,go_sem,seval];exact we (by simp (disch:=omega) only [zShe,List.map_nil,go_sem,seval])
     | some m =>
      rw [fmL] at hR;subst hR;simp (disch:=omega) only [Option.isSome_some,Bool.not_true,ZfR,go_sem,seval];exact we
    | some s =>
     have hsl2:=hcl s rfl;rw [Jx,List.filterMap_cons,hopt] at hR
     have hmu:(Zja r.rests (Xz s)).length<(Zja r.rests (some s)).length:=by rw [Jx];simp
     have hnl: ∀s',Xz s=some s'->s'.length=sp.length+1-r.rests.length:=fun s' hs'=>by rw [fromB_next.nlen _ _ hs',hsl2]
     have hlen:(r.rests++s).length=r.visits.length+1:=by simp;omega
     have hr1:=hrun (r.rests++s) false hlen;have cn1:=cn s hlen;rw [List.map_append] at hr1 cn1;simp (disch:=omega) only [Option.map_some,Option.isSome_some,Zg2,Zc,ZB,go_sem,seval];generalize XV x t sp 0 L0 (r.rests++s)=g at hR hr1;obtain ⟨Lg,eg⟩:=g;simp only at hR hr1;refine Xs hr1 ?_;simp (disch:=omega) only [go_sem,seval];refine gT ?_ ?_<;>intro h1<;>simp (disch:=omega) only [Sh.out h1,go_sem,seval]
     ·subst h1
      cases b with
      | none =>
       simp (disch:=omega) only [Option.isSome_none,Bool.not_false,go_sem,seval];refine Xs cn1 ?_;simp (disch:=omega) only [go_sem,seval];exact ⟨(Xz s,some Lg),⟨hR,hnl⟩,hmu,Weak.mk (by simp (disch:=omega) only [Zc,ZB,ZfR,Option.isSome_some,go_sem,seval])⟩
      | some m =>
       simp (disch:=omega) only [Option.isSome_some,Bool.not_true,ZfR,go_sem,seval];refine cD ?_ ?_<;>intro h2<;>simp (disch:=omega) only [Sh.out h2,go_sem,seval]
       ·refine Xs cn1 ?_;simp (disch:=omega) only [go_sem,seval];exact ⟨(Xz s,some Lg),⟨by rw [hR];simp only [if_true,fmL,WZ,h2],hnl⟩,hmu,Weak.mk (by simp (disch:=omega) only [Zc,ZB,ZfR,Option.isSome_some,go_sem,seval])⟩
       ·refine Xs cn1 ?_;simp (disch:=omega) only [go_sem,seval];exact ⟨(Xz s,some m),⟨by rw [hR];simp only [if_true,fmL,WZ,h2,if_false],hnl⟩,hmu,Weak.mk (by simp (disch:=omega) only [Zc,ZB,ZfR,Option.isSome_some,go_sem,seval])⟩
     ·rw [if_neg h1] at hR;refine Xs cn1 ?_;simp (disch:=omega) only [go_sem,seval];exact ⟨(Xz s,b),⟨hR,hnl⟩,hmu,Weak.mk (by simp (disch:=omega) only [Zc,ZB,go_sem,seval])⟩
def eR (p:Bool×List Int):PV:= .list p.1 (p.2.map eI)
@[go_sem] theorem ZGc (p:Bool×List Int):eR p= .list p.1 (p.2.map eI):=Eq.trans rfl rfl
theorem Zjh (L:List (Bool×List Int)) (c:Bool) (d:Nat) (hd:d<=3) (hL:L.length<=1048576) (h: ∀p∈L,p.2.length=d):PC 266 [.p (.list c (L.map eR)),.p (.int .i64 (d:Nat))] (.bool true):=by
 refine Za Tryz.func266 rfl Zt6 ?_
 have e1: ¬(d:Int)<0:=by omega
 have e2: ¬(3:Int)<d:=by omega
 simp (disch:=omega) only [Tryz.f266,e1,e2,go_sem,seval];refine Zf [0,1] (fun k:Nat=> [(5,.p (.int .i64 k))]) (fun _=> []) (fun k=>k<=L.length) (fun k=>L.length-k) 0 (by simp) (Weak.mk ?_) ?_
 ·simp (disch:=omega) only [go_sem,seval]
 ·intro k hk;simp (disch:=omega) only [go_sem,seval];refine cD ?_ ?_<;>intro h1<;>simp (disch:=omega) only [Sh.out h1,go_sem,seval]
  ·have hk2:k<L.length:=by omega
   have hp:=h _ (Zp hk2);simp (disch:=omega) only [hp,go_sem,seval];exact ⟨k+1,by omega,by omega,wk⟩
def Ze2 (L:List (Bool×List Int)) (k j:Nat):Int:=((L.take k).map fun p=>nth p.2 j).sum
theorem ZaC {L:List (Bool×List Int)} {k j:Nat} (h:k<L.length):Ze2 L (k+1) j=Ze2 L k j+nth (nth L k).2 j:=by
 rw [Ze2,Ze2,List.take_succ_eq_append_getElem h,List.map_append,List.sum_append,Ze h];simp
theorem Zef {L:List (Bool×List Int)} {d j:Nat} (h: ∀p∈L,p.2.length=d/\ ∀n∈p.2,0<=n/\n<=1000) (hj:j<d): ∀k,k<=L.length->0<=Ze2 L k j/\Ze2 L k j<=1000*(k:Int)
 | 0,_=>by simp [Ze2]
 | k+1,hk=>by
  have ih:=Zef h hj k (by omega);obtain ⟨h1,h2⟩:=h _ (Zp (show k<L.length by omega));have:=h2 _ (Zp (show j<(nth L k).2.length by omega));rw [ZaC (by omega)];omega
def Zzo (L:List (Bool×List Int)) (d:Nat):List Int:=(List.range d).map fun j=>Ze2 L L.length j
theorem Zop (L:List (Bool×List Int)) (c:Bool) (d:Nat) (hd:1<=d/\d<=3) (hL:L.length<=1048576) (h: ∀p∈L,p.2.length=d/\ ∀n∈p.2,0<=n/\n<=1000) :
  PT 261 [.p (.list c (L.map eR)),.p (.int .i64 (d:Nat))] [.p (.list false ((Zzo L d).map eI)),.p (.int .i64 0)]:=by
 refine Zb [13] Tryz.func261 rfl ZrQ ?_;simp (disch:=omega) only [Tryz.f261,go_sem,seval];refine (Zjh L c d hd.2 hL fun p hp=>(h p hp).1).use ?_;simp (disch:=omega) only [go_sem,seval];refine ZE [13] [0,1] (fun q:Nat×List Int=> [(6,.sl 0 0 q.2.length q.2.length),(7,.p (.int .i64 q.1))]) (fun q=> [.elems 1 (q.2.map eI)]) (fun q=>q.1<=d/\q.2=(List.range q.1).map fun j=>Ze2 L L.length j) (fun q=>d-q.1) (0,[]) (by simp) (Weak.ofNil 6 1 rfl (by simp) (Weak.mk ?_)) ?_
 ·simp (disch:=omega) only [List.map_nil,List.length_nil,go_sem,seval]
 ·rintro ⟨j,o⟩ ⟨hj,ho⟩;simp only at hj ho
  have hol:o.length=j:=by rw [ho];simp
  simp (disch:=omega) only [go_sem,seval];refine cD ?_ ?_<;>intro h1<;>simp (disch:=omega) only [Sh.out h1,go_sem,seval]
  ·have hj2:j<d:=by omega
   refine Zf [0,1,6,7] (fun k:Nat=> [(8,.p (.int .i64 (Ze2 L k j))),(9,.p (.int .i64 k))]) (fun _=> [.elems 1 (o.map eI)]) (fun k=>k<=L.length) (fun k=>L.length-k) 0 (by simp) (Weak.mk ?_) ?_
   ·simp (disch:=omega) only [Ze2,List.take_zero,List.map_nil,List.sum_nil,go_sem,seval]
   ·intro k hk;simp (disch:=omega) only [go_sem,seval];refine cD ?_ ?_<;>intro h2<;>simp (disch:=omega) only [Sh.out h2,go_sem,seval]
    ·have hk2:k<L.length:=by omega
     obtain ⟨g1,g2⟩:=h _ (Zp hk2);have g3:=g2 _ (Zp (show j<(nth L k).2.length by omega));have g4:=Zef h hj2 k hk;have g5:=ZaC (j:=j) hk2
     have g6:j<(nth L k).2.length:=by omega
     simp (disch:=omega) only [go_sem,seval];exact ⟨k+1,by omega,by omega,Weak.mk (by simp (disch:=omega) only [g5,go_sem,seval])⟩
    ·have hkl:k=L.length:=by omega
     subst hkl;refine ⟨(j+1,o++ [Ze2 L L.length j]),⟨by simp only;omega,by simp only;rw [ho,List.range_succ,List.map_append];rfl⟩,by simp only;omega,Weak.mk (by simp (disch:=omega) only [List.length_append,List.length_cons,List.length_nil,List.map_append,List.map_cons,List.map_nil,go_sem,seval])⟩
  ·have hjd:j=d:=by omega
   subst hjd;refine Zm (Weak.fz (o:=0) (by rfl)) ?_;refine Zd [] _ _ _ _ ?_;simp (disch:=omega) only [List.map_cons,List.map_nil,List.set_cons_succ,List.set_cons_zero,go_sem,seval];rw [Zzo,<- ho];exact we
theorem Zk8 (a b:List Int) (c d:Bool) (ha:a.length<=1048576) (hb:b.length<=1048576):PC 247 [.p (.list c (a.map eI)),.p (.list d (b.map eI))] (.bool (Y0 a b)):=by
 refine Za Tryz.func247 rfl Zv9 ?_;simp (disch:=omega) only [Tryz.f247,go_sem,seval];refine cD ?_ ?_<;>intro h1<;>simp (disch:=omega) only [Sh.out h1,go_sem,seval]
 ·have: ¬a.length=b.length:=by omega
  simp [Y0,this]
 ·have h1':a.length=b.length:=by omega
  refine Zf [0,1] (fun k:Nat=> [(5,.p (.int .i64 k))]) (fun _=> []) (fun k=>k<=a.length/\ ∀j,j<k->nth a j<=nth b j) (fun k=>a.length-k) 0 (by simp) (Weak.mk ?_) ?_
  ·simp (disch:=omega) only [go_sem,seval]
  ·rintro k ⟨hk,hno⟩;simp (disch:=omega) only [go_sem,seval];refine cD ?_ ?_<;>intro h2<;>simp (disch:=omega) only [Sh.out h2,go_sem,seval]
   ·have hk2:k<a.length:=by omega
    refine Zg mixed (by kernel_rfl) (by kernel_rfl) ?_;simp (disch:=omega) only [go_sem,seval];refine cD ?_ ?_<;>intro h3<;>simp (disch:=omega) only [Sh.out h3,go_sem,seval]
    ·have:Y0 a b=false:=by
      cases hf:Y0 a b with
      | false=>rfl
      | true=>simp [Y0,List.all_eq_true] at hf;have:=hf.2 k hk2;omega
     rw [this]
    ·exact ⟨k+1,⟨by omega,Zi.2 ⟨hno,by omega⟩⟩,by omega,wk⟩
   ·have hkl:k=a.length:=by omega
    subst hkl
    have:Y0 a b=true:=by
     simp only [Y0,Bool.and_eq_true,decide_eq_true_eq,List.all_eq_true,List.mem_range];exact ⟨h1',fun i hi=>hno i hi⟩
    rw [this]
theorem Zk3 (x:Inst) (ht:x.types.length<=1048576):PC 262 [.p (Zt x)] (.int .i64 (dimsOf x.types)):=by
 refine Za Tryz.func262 rfl ZvA ?_;simp (disch:=omega) only [Tryz.f262,go_sem,seval];refine cD ?_ ?_<;>intro h1<;>simp (disch:=omega) only [Sh.out h1,go_sem,seval]
 ·have:x.types.length=0:=by omega
  simp [dimsOf,this]
 ·have h2: ¬x.types.length=0:=by omega
  simp only [dimsOf,h2,if_false]
structure LdOk (x:Inst):Prop where
 ord:x.orders.length<=10
 typ:x.types.length<=1048576
 dim:1<=dimsOf x.types/\dimsOf x.types<=3
 load: ∀o∈x.orders,(o.load.length:Int)=dimsOf x.types/\ ∀n∈o.load,0<=n/\n<=1000
theorem WN {x:Inst} (h:InstOk x):LdOk x:=by
 have ht:=h.types.1;simp only [rng,decide_eq_true_eq] at ht;have ho:=h.orders
 have h0:0<x.types.length:=by omega
 have hcap:=h.types.2 0 h0;unfold JN at hcap;obtain ⟨⟨⟨⟨⟨⟨⟨⟨_,_⟩,_⟩,_⟩,hcap⟩,_⟩,_⟩,_⟩,_⟩:=hcap;simp only [Vr,Bool.and_eq_true,decide_eq_true_eq,rng] at hcap;refine ⟨ho.1,by omega,by omega,fun o hm=> ?_⟩;obtain ⟨i,hi,rfl⟩:=List.mem_iff_getElem.1 hm;have:=(ho.2 i hi).load;rw [Ze hi] at this;simp only [loadOk,Bool.and_eq_true,decide_eq_true_eq,List.all_eq_true,rng] at this;exact ⟨this.1,this.2⟩
def Zi5 (x:Inst) (l:List Vis) (n k:Nat):List (Bool×List Int):=((List.range k).filter fun i=>onB x l n i&&hasO l i).map fun i=>((nth x.orders i).load_c,(nth x.orders i).load)
theorem ZiZ {x:Inst} {l:List Vis} {n k:Nat} :Zi5 x l n (k+1)=Zi5 x l n k++if (onB x l n k&&hasO l k)=true then [((nth x.orders k).load_c,(nth x.orders k).load)] else []:=by
 unfold Zi5;rw [List.range_succ,List.filter_append,List.map_append]
 congr 1
 simp only [List.filter_cons,List.filter_nil]
 split<;>rfl
theorem ZkN {x:Inst} {l:List Vis} {n:Nat} : ∀k,(Zi5 x l n k).length<=k:=fun k=>by
 unfold Zi5;have:=List.length_filter_le (fun i=>onB x l n i&&hasO l i) (List.range k);simp only [List.length_map,List.length_range] at this ⊢;exact this
theorem ZnU {x:Inst} {l:List Vis} {n k:Nat} (h:LdOk x) (hk:k<=x.orders.length): ∀p∈Zi5 x l n k,p.2.length=(dimsOf x.types).toNat/\ ∀m∈p.2,0<=m/\m<=1000:=fun p hp=>by
 obtain ⟨i,hi,rfl⟩:=List.mem_map.1 hp;have hi2:=List.mem_range.1 (List.mem_filter.1 hi).1;have:=h.load _ (Zp (show i<x.orders.length by omega));exact ⟨by simp only;omega,this.2⟩
theorem ZjS {x:Inst} {l:List Vis} {n:Nat} :Zzo (Zi5 x l n x.orders.length) (dimsOf x.types).toNat=WL x l n:=by
 unfold Zzo WL;refine List.map_congr_left fun j _=> ?_;rw [Ze2,List.take_length,Zi5,List.map_map,ZfV,<- W4]
 rfl
def onK (x:Inst) (l:List Vis) (n i k:Nat):Bool:=(l.take (min k n)).foldl (fun on v=>if v.order=(i:Int) then !v.drp else on) (decide ((nth x.orders i).pick.place<0))
def Zoh (l:List Vis) (i k:Nat):Bool:=(l.take k).any fun v=>decide (v.order=(i:Int))
theorem ZjY {x:Inst} {l:List Vis} {n i k:Nat} (h:k<l.length):onK x l n i (k+1)=if (nth l k).order=(i:Int) then (if k<n then !(nth l k).drp else onK x l n i k) else onK x l n i k:=by
 unfold onK
 by_cases hn:k<n
 ·rw [show min (k+1) n=min k n+1 by omega,show min k n=k by omega,List.take_succ_eq_append_getElem h,List.foldl_append,Ze h];simp [hn]
 ·rw [show min (k+1) n=min k n by omega];simp [hn]
theorem ZhR {l:List Vis} {i k:Nat} (h:k<l.length):Zoh l i (k+1)=if (nth l k).order=(i:Int) then true else Zoh l i k:=by
 unfold Zoh;rw [List.take_succ_eq_append_getElem h,List.any_append,Ze h]
 by_cases hc:(l[k]).order=(i:Int)<;>simp [hc]
theorem Zot {x:Inst} {l:List Vis} {n i:Nat} (h:n<=l.length):onK x l n i l.length=onB x l n i:=by
 unfold onK onB;rw [show min l.length n=n by omega]
theorem Zle {l:List Vis} {i:Nat} :Zoh l i l.length=hasO l i:=by unfold Zoh hasO;rw [List.take_length]
theorem Zhd (x:Inst) (l:List Vis) (c:Bool) (n:Nat) (hx:LdOk x) (hl:l.length<=1048576) (hn:n<=l.length) :
  PT 255 [.p (Zt x),.p (.list c (l.map Z5)),.p (.int .i64 (n:Nat))] [.p (.list false ((WL x l n).map eI)),.p (.int .i64 0)]:=by
 have ho:=hx.ord;refine Zb [15] Tryz.func255 rfl ZuT ?_;simp (disch:=omega) only [Tryz.f255,go_sem,seval];refine ZE [15] [1,2,3] (fun q:Nat×List (Bool×List Int)=> [(8,.sl 1 0 q.2.length q.2.length),(9,.p (.int .i64 q.1))]) (fun q=> [Zc x,.elems 1 (q.2.map eR)]) (fun q=>q.1<=x.orders.length/\q.2=Zi5 x l n q.1) (fun q=>x.orders.length-q.1) (0,[]) (by simp [Zi5]) (Weak.ofNil 8 1 rfl (by simp) (Weak.mk ?_)) ?_
 ·simp (disch:=omega) only [Zc,List.map_nil,List.length_nil,List.cons_append,List.nil_append,go_sem,seval]
 ·rintro ⟨i,o⟩ ⟨hi,hob⟩;simp only at hi hob
  have hol:o.length<=i:=by rw [hob];exact ZkN i
  simp (disch:=omega) only [Zc,go_sem,seval];refine cD ?_ ?_<;>intro h1<;>simp (disch:=omega) only [Sh.out h1,go_sem,seval]
  ·have hi2:i<x.orders.length:=by omega
   refine Zf [1,2,3,8,9] (fun k:Nat=> [(10,.p (.bool (onK x l n i k))),(11,.p (.bool (Zoh l i k))),(12,.p (.int .i64 k))]) (fun _=> [Zc x,.elems 1 (o.map eR)]) (fun k=>k<=l.length) (fun k=>l.length-k) 0 (by simp) (Weak.mk ?_) ?_
   ·simp (disch:=omega) only [Zc,onK,Zoh,Nat.zero_min,List.take_zero,List.foldl_nil,List.any_nil,go_sem,seval]
   ·intro k hk;simp (disch:=omega) only [Zc,go_sem,seval];refine cD ?_ ?_<;>intro h2<;>simp (disch:=omega) only [Sh.out h2,go_sem,seval]
    ·have hk2:k<l.length:=by omega
     have s1:=ZjY (x:=x) (n:=n) (i:=i) hk2;have s2:=ZhR (i:=i) hk2;refine cD ?_ ?_<;>intro h3<;>simp (disch:=omega) only [Sh.out h3,go_sem,seval]
     ·rw [if_neg h3] at s1 s2;exact ⟨k+1,by omega,by omega,Weak.mk (by simp (disch:=omega) only [Zc,s1,s2,go_sem,seval])⟩
     ·have h3':=Classical.not_not.1 h3;rw [if_pos h3'] at s1 s2;refine cD ?_ ?_<;>intro h4<;>simp (disch:=omega) only [Sh.out h4,go_sem,seval]
      ·rw [if_pos (by omega)] at s1;exact ⟨k+1,by omega,by omega,Weak.mk (by simp (disch:=omega) only [Zc,s1,s2,go_sem,seval])⟩
      ·rw [if_neg (by omega)] at s1;exact ⟨k+1,by omega,by omega,Weak.mk (by simp (disch:=omega) only [Zc,s1,s2,go_sem,seval])⟩
    ·have hkl:k=l.length:=by omega
     subst hkl;have s3:=ZiZ (x:=x) (l:=l) (n:=n) (k:=i);rw [Zot hn,Zle];refine gT ?_ ?_<;>intro h5<;>simp (disch:=omega) only [Sh.out h5,go_sem,seval]
     ·refine cD ?_ ?_<;>intro h6<;>simp (disch:=omega) only [Sh.out h6,go_sem,seval]
      ·rw [h5,h6,Bool.and_self,if_pos rfl] at s3;exact ⟨(i+1,o++ [((nth x.orders i).load_c,(nth x.orders i).load)]),⟨by simp only;omega,by simp only;rw [s3,hob]⟩,by simp only;omega,Weak.mk (by simp (disch:=omega) only [Zc,List.length_append,List.length_cons,List.length_nil,List.map_append,List.map_cons,List.map_nil,go_sem,seval])⟩
      ·rw [h5,h6,Bool.and_false,if_neg (by simp),List.append_nil] at s3;exact ⟨(i+1,o),⟨by simp only;omega,by simp only;rw [s3,hob]⟩,by simp only;omega,Weak.mk (by simp (disch:=omega) only [Zc,go_sem,seval])⟩
     ·have h5':onB x l n i=false:=by simpa using h5
      rw [h5',Bool.false_and,if_neg (by simp),List.append_nil] at s3;exact ⟨(i+1,o),⟨by simp only;omega,by simp only;rw [s3,hob]⟩,by simp only;omega,Weak.mk (by simp (disch:=omega) only [Zc,go_sem,seval])⟩
  ·have hik:i=x.orders.length:=by omega
   subst hik
   have hD:dimsOf x.types=((dimsOf x.types).toNat:Int):=by have:=hx.dim;omega
   have hok:=ZnU (l:=l) (n:=n) hx (Nat.le_refl _);rw [<- hob] at hok;have hs:=ZjS (x:=x) (l:=l) (n:=n);rw [<- hob] at hs;refine Zm (Weak.fz (o:=1) (by rfl)) ?_;refine Zd [] _ _ _ _ ?_;simp (disch:=omega) only [List.map_cons,List.map_nil,List.set_cons_succ,List.set_cons_zero,go_sem,seval];refine (Zk3 x hx.typ).use ?_;simp (disch:=omega) only [go_sem,seval];rw [hD];refine Xs (Zop o false (dimsOf x.types).toNat (by have:=hx.dim;omega) (by omega) hok) ?_;simp (disch:=omega) only [go_sem,seval];rw [<- hs];exact we
def eIL (l:List Int):PV:= .list false (l.map eI)
@[go_sem] theorem Ztk (l:List Int):eIL l= .list false (l.map eI):=Eq.trans rfl rfl
def VZ (x:Inst) (l:List Vis):List (List Int):=(List.range (l.length+1)).map (WL x l)
theorem Zil (x:Inst) (r:Rte) (hx:InstOk x) (hl:r.visits.length<=1048576) (h0:ZR x r.visits=0) (hchk:PC 227 [.p (Zt x),.p (Wr r)] (.int .i64 (ZR x r.visits))) :
  PT 246 [.p (Zt x),.p (Wr r)] [.p (.list false ((VZ x r.visits).map eIL)),.p (.int .i64 0)]:=by
 have hd:=WN hx;refine Zb [12] Tryz.func246 rfl Zu1 ?_;simp (disch:=omega) only [Tryz.f246,go_sem,seval];refine (hchk).use ?_;simp (disch:=omega) only [go_sem,seval];simp (disch:=omega) only [h0,go_sem,seval];refine ZE [12] [2,3] (fun q:Nat×List (List Int)=> [(7,.sl 2 0 q.2.length q.2.length),(8,.p (.int .i64 q.1))]) (fun q=> [Zc x,ZB r,.elems 1 (q.2.map eIL)]) (fun q=>q.1<=r.visits.length+1/\q.2=(List.range q.1).map (WL x r.visits)) (fun q=>r.visits.length+1-q.1) (0,[]) (by simp) (Weak.ofNil 7 1 rfl (by simp) (Weak.mk ?_)) ?_
 ·simp (disch:=omega) only [Zc,ZB,List.map_nil,List.length_nil,List.cons_append,List.nil_append,go_sem,seval]
 ·rintro ⟨k,o⟩ ⟨hk,ho⟩;simp only at hk ho
  have hol:o.length=k:=by rw [ho];simp
  simp (disch:=omega) only [Zc,ZB,go_sem,seval];refine cD ?_ ?_<;>intro h1<;>simp (disch:=omega) only [Sh.out h1,go_sem,seval]
  ·refine Xs (Zhd x r.visits r.visits_c k hd hl (by omega)) ?_;simp (disch:=omega) only [go_sem,seval];exact ⟨(k+1,o++ [WL x r.visits k]),⟨by simp only;omega,by simp only;rw [ho,List.range_succ,List.map_append];rfl⟩,by simp only;omega,Weak.mk (by simp (disch:=omega) only [Zc,ZB,List.length_append,List.length_cons,List.length_nil,List.map_append,List.map_cons,List.map_nil,go_sem,seval])⟩
  ·have hkl:k=r.visits.length+1:=by omega
   subst hkl;refine Zm (Weak.fz (o:=2) (by rfl)) ?_;refine Zd [] _ _ _ _ ?_;simp (disch:=omega) only [List.map_cons,List.map_nil,List.set_cons_succ,List.set_cons_zero,go_sem,seval];rw [VZ,<- ho];exact we
theorem Zln (x:Inst) (r:Rte) (hx:InstOk x) (hl:r.visits.length<=1048576) (hty:0<=r.typ/\r.typ<(x.types.length:Int)) (h0:ZR x r.visits=0) (hchk:PC 227 [.p (Zt x),.p (Wr r)] (.int .i64 (ZR x r.visits))) :
  PC 229 [.p (Zt x),.p (Wr r)] (.int .i64 (if Ua x (Z2 x r).cap r.visits=true then 0 else 17)):=by
 have hd:=WN hx;have htl:=hd.typ
 have hti:r.typ.toNat<x.types.length:=by omega
 have hcp:(nth x.types r.typ.toNat).cap.length<=3:=by
  have hcap:=hx.types.2 _ hti;unfold JN at hcap;obtain ⟨⟨⟨⟨⟨⟨⟨⟨_,_⟩,_⟩,_⟩,hcap⟩,_⟩,_⟩,_⟩,_⟩:=hcap;simp only [Vr,Bool.and_eq_true,decide_eq_true_eq,rng] at hcap;omega
 have hll:(VZ x r.visits).length=r.visits.length+1:=by simp [VZ]
 have hln: ∀k,k<r.visits.length+1->nth (VZ x r.visits) k=WL x r.visits k:=fun k hk=>by
  rw [Ze (by omega)];simp [VZ]
 have hal: ∀k,(WL x r.visits k).length<=3:=fun k=>by rw [VU];have:=hd.dim;omega
 have cl:=Zil x r hx hl h0 hchk;unfold Z2
 generalize hL:VZ x r.visits=L at *
 refine Za Tryz.func229 rfl Zs5 ?_
 have e1: ¬r.typ<0:=by omega
 have e2: ¬(x.types.length:Int)<=r.typ:=by omega
 simp (disch:=omega) only [Tryz.f229,e1,e2,go_sem,seval];refine Xs cl ?_;simp (disch:=omega) only [go_sem,seval];refine Zf [2,3,5] (fun k:Nat=> [(7,.p (.int .i64 k))]) (fun _=> [Zc x,ZB r]) (fun k=>k<=r.visits.length+1/\ ∀j,j<k->Y0 (WL x r.visits j) (nth x.types r.typ.toNat).cap=true) (fun k=>r.visits.length+1-k) 0 (by simp) (Weak.mk ?_) ?_
 ·simp (disch:=omega) only [Zc,ZB,go_sem,seval]
 ·rintro k ⟨hk,hno⟩;simp (disch:=omega) only [Zc,ZB,hll,go_sem,seval];refine cD ?_ ?_<;>intro h1<;>simp (disch:=omega) only [Sh.out h1,go_sem,seval]
  ·have hk2:k<r.visits.length+1:=by omega
   have hk3:k<L.length:=by omega
   have hk4:=hal k;refine Zg mixed (by kernel_rfl) (by kernel_rfl) ?_;simp (disch:=omega) only [hln k hk2,go_sem,seval];refine Zj (Zk8 (WL x r.visits k) (nth x.types r.typ.toNat).cap false (nth x.types r.typ.toNat).cap_c (by omega) (by omega)) ?_;simp (disch:=omega) only [go_sem,seval];refine cD ?_ ?_<;>intro h2<;>simp (disch:=omega) only [Sh.out h2,go_sem,seval]
   ·have h2':Y0 (WL x r.visits k) (nth x.types r.typ.toNat).cap=false:=by simpa using h2
    have: ¬Ua x (nth x.types r.typ.toNat).cap r.visits=true:=fun h=>by
     rw [Ua,List.all_eq_true] at h;have:=h k (List.mem_range.2 hk2);rw [h2'] at this;cases this
    rw [if_neg this]
   ·exact ⟨k+1,⟨by omega,Zi.2 ⟨hno,by simpa using h2⟩⟩,by omega,Weak.mk (by simp (disch:=omega) only [Zc,ZB,go_sem,seval])⟩
  ·have:Ua x (nth x.types r.typ.toNat).cap r.visits=true:=by
    rw [Ua,List.all_eq_true];intro j hj;exact hno j (by have:=List.mem_range.1 hj;omega)
   rw [if_pos this]
def Zmz (j:Nat):Int:=if j=63 then-9223372036854775808 else ((pw j:Nat):Int)
theorem ZcO {j:Nat} (h:j<63):Zmz j=((pw j:Nat):Int):=by rw [Zmz,if_neg (by omega)]
theorem ZwB {j:Nat} (h:j<=62):pw j<=4611686018427387904:=by have:=U5 h;rwa [Zb5] at this
theorem ZdU {j:Nat} (h:j<=63):0<Zmz j↔j<63:=by
 unfold Zmz
 split
 ·omega
 ·have:=Kh j;omega
theorem ZwK {S q:Nat} (hS:S<9223372036854775808) (h:q<=S):IntKind.i64.wrap (q:Int)=(q:Int):=by rw [IntKind.wrap_i64];omega
theorem ZeN {P:Program} {t:TypeId} {S j:Nat} (hS:S<9223372036854775808):Ye P .quo t (.p (.int .i64 (S:Int))) (.p (.int .i64 ((pw j:Nat):Int)))=some (.int .i64 ((S / pw j:Nat):Int)):=by
 have hp:=Kh j;rw [Zkz (by omega)]
 have e:(S:Int).tdiv ((pw j:Nat):Int)=((S / pw j:Nat):Int):=by
  rw [Int.tdiv_eq_ediv_of_nonneg (by omega)];exact (Int.natCast_ediv _ _).symm
 have hle:=Nat.div_le_self S (pw j);rw [e,ZwK hS hle]
theorem Zit {P:Program} {t:TypeId} {S:Nat} :Ye P .rem t (.p (.int .i64 (S:Int))) (.p (.int .i64 2))=some (.int .i64 ((S%2:Nat):Int)):=by
 rw [ZkE (by omega),Int.tmod_eq_emod_of_nonneg (by omega)]
 rfl
theorem Zy7 {S j:Nat} (hS:S<9223372036854775808):(IntKind.i64.wrap ((S:Int) / ((pw j:Nat):Int))).tmod 2=((S / pw j%2:Nat):Int):=by
 have hle:=Nat.div_le_self S (pw j);rw [<- Int.natCast_ediv,ZwK hS hle,Int.tmod_eq_emod_of_nonneg (Int.natCast_nonneg _)]
 rfl
theorem ZhN {P:Program} {t:TypeId} {j:Nat} (h:j<63):Ye P .mul t (.p (.int .i64 ((pw j:Nat):Int))) (.p (.int .i64 2))=some (.int .i64 (Zmz (j+1))):=by
 rw [Zk2]
 congr 2
 have hs:=Jq j;unfold Zmz
 split
 ·have hj:j=62:=by omega
  subst hj;rw [Zb5];decide
 ·have:=ZwB (show j+1<=62 by omega)
  have e:((pw j:Nat):Int)*2=((pw (j+1):Nat):Int):=by omega
  rw [e]
  exact by rw [IntKind.wrap_i64];omega
theorem Zjg (t:Typ) (s:Int) (h1:t.skills<9223372036854775808) (h2:s<9223372036854775808):PC 228 [.p (U7 t),.p (.int .i64 s)] (.bool (Yu t s)):=by
 refine Za Tryz.func228 rfl ZvS ?_;simp (disch:=omega) only [Tryz.f228,go_sem,seval];refine gF ?_ ?_<;>intro c1<;>simp (disch:=omega) only [Sh.out c1,go_sem,seval]
 ·have:Yu t s=false:=by
   have: ¬ 0<=t.skills:=by omega
   simp [Yu,this]
  rw [this]
 ·refine cD ?_ ?_<;>intro c2<;>simp (disch:=omega) only [Sh.out c2,go_sem,seval]
  ·have:Yu t s=false:=by
    have: ¬ 0<=s:=by omega
    simp [Yu,this]
   rw [this]
  ·obtain ⟨M,hM⟩: ∃M:Nat,t.skills=(M:Int):=⟨t.skills.toNat,by omega⟩;obtain ⟨S,rfl⟩: ∃S:Nat,s=(S:Int):=⟨s.toNat,by omega⟩
   have hMl:M<9223372036854775808:=by omega
   have hSl:S<9223372036854775808:=by omega
   have hab: ∀b:Bool,((List.range 63).all fun i=> !S.testBit i||M.testBit i)=b->Yu t (S:Int)=b:=fun b hb=>by
    have g1:0<=t.skills:=by omega
    have g2:(0:Int)<=(S:Int):=by omega
    simp only [Yu,g1,g2,decide_true,Bool.true_and,hM,Int.toNat_natCast];exact hb
   refine Zf [1,2] (fun j:Nat=> [(5,.p (.int .i64 (Zmz j)))]) (fun _=> [Xk t]) (fun j=>j<=63/\ ∀i,i<j->(!S.testBit i||M.testBit i)=true) (fun j=>63-j) 0 (by simp) (Weak.mk ?_) ?_
   ·simp (disch:=omega) only [Xk,hM,show Zmz 0=1 from rfl,go_sem,seval]
   ·rintro j ⟨hj,hno⟩;simp (disch:=omega) only [Xk,hM,go_sem,seval];refine cD ?_ ?_<;>intro c3<;>simp (disch:=omega) only [Sh.out c3,go_sem,seval]
    ·have hj2:j<63:=(ZdU hj).1 c3;simp (disch:=omega) only [ZcO hj2,ZeN hSl,ZeN hMl,Zy7 hSl,Zy7 hMl,Zit,ZhN hj2,ZcG,Zah,go_sem,seval];refine gT ?_ ?_<;>intro c4<;>simp (disch:=omega) only [Sh.out c4,ZcO hj2,ZeN hSl,ZeN hMl,Zy7 hSl,Zy7 hMl,Zit,ZhN hj2,ZcG,Zah,go_sem,seval]
     ·refine cD ?_ ?_<;>intro c5<;>simp (disch:=omega) only [Sh.out c5,ZcO hj2,ZhN hj2,go_sem,seval]
      ·rw [hab false (by rw [List.all_eq_false];exact ⟨j,List.mem_range.2 hj2,by simp [c4,c5]⟩)]
      ·exact ⟨j+1,⟨by omega,Zi.2 ⟨hno,by simp [c4] at c5 ⊢;exact c5⟩⟩,by omega,Weak.mk (by simp (disch:=omega) only [Xk,hM,go_sem,seval])⟩
     ·exact ⟨j+1,⟨by omega,Zi.2 ⟨hno,by simp at c4;simp [c4]⟩⟩,by omega,Weak.mk (by simp (disch:=omega) only [Xk,hM,go_sem,seval])⟩
    ·have hj63:j=63:=by
      rcases Nat.lt_or_ge j 63 with h | h
      ·exact absurd ((ZdU hj).2 h) c3
      ·omega
     subst hj63;rw [hab true (by rw [List.all_eq_true];intro i hi;exact hno i (List.mem_range.1 hi))]
def ZiM (s:Stp) (a:Int):Int×Int:=if max a s.opn>s.cls then (0,14) else (max a s.opn,0)
theorem Zf6 (s:Stp) (a:Int):PT 224 [.p (Zhm s),.p (.int .i64 a)] [.p (.int .i64 (ZiM s a).1),.p (.int .i64 (ZiM s a).2)]:=by
 refine Zb [] Tryz.func224 rfl Ztz ?_;simp (disch:=omega) only [Tryz.f224,go_sem,seval];refine cD ?_ ?_<;>intro h<;>simp (disch:=omega) only [Sh.out h,go_sem,seval]
 ·have e:ZiM s a=(0,14):=by rw [ZiM,if_pos (by omega)]
  rw [e];exact we
 ·have e:ZiM s a=(max a s.opn,0):=by rw [ZiM,if_neg (by omega)]
  rw [e];exact we
theorem Zkw (l:List Ord) (c:Bool) (p:Int) (hl:l.length<=1048576):PC 142 [.p (.list c (l.map Ug)),.p (.int .i64 p)] (.bool (decide (0<=p)&&decide (p<(l.length:Int)))):=by
 refine Za Tryz.func142 rfl ZmM ?_;simp (disch:=omega) only [Tryz.f142,go_sem,seval];refine gT ?_ ?_<;>intro h<;>simp (disch:=omega) only [Sh.out h,go_sem,seval]
 all_goals simp [h]
theorem Zf3 (x:Inst) (v:Vis) (ho:x.orders.length<=1048576) (hv:inB x v=true) (hp:0<=(Xf x v).place):PT 147 [.p (.list x.orders_c (x.orders.map Ug)),.p (Z5 v)] [.p (Zhm (Xf x v)),.p (.int .i64 0)]:=by
 refine Zb [] Tryz.func147 rfl ZtN ?_;simp (disch:=omega) only [Tryz.f147,go_sem,seval];have hv':=hv;rw [inB] at hv';have ct:=Zkw x.orders x.orders_c v.order ho;rw [hv'] at ct;refine ct.use ?_;simp only [Bool.and_eq_true,decide_eq_true_eq] at hv';obtain ⟨h1,h2⟩:=hv'
 have hi:v.order.toNat<x.orders.length:=by omega
 simp (disch:=omega) only [go_sem,seval];refine cD ?_ ?_<;>intro hd<;>simp (disch:=omega) only [Sh.out hd,go_sem,seval]
 ·have e:Xf x v=(nth x.orders v.order.toNat).drp:=by simp [Xf,hd]
  rw [e] at hp ⊢
  have e3: ¬(nth x.orders v.order.toNat).drp.place<0:=by omega
  simp (disch:=omega) only [e3,go_sem,seval];exact we
 ·have e:Xf x v=(nth x.orders v.order.toNat).pick:=by simp [Xf,hd]
  rw [e] at hp ⊢
  have e3: ¬(nth x.orders v.order.toNat).pick.place<0:=by omega
  simp (disch:=omega) only [e3,go_sem,seval];exact we
theorem Zns (l:List Typ) (c:Bool) (ht:l.length<=1048576):PC 208 [.p (.list c (l.map U7))] (.int .i64 (dimsOf l)):=by
 refine Za Tryz.func208 rfl Ztu ?_;simp (disch:=omega) only [Tryz.f208,go_sem,seval];refine cD ?_ ?_<;>intro h1<;>simp (disch:=omega) only [Sh.out h1,go_sem,seval]
 ·have:l.length=0:=by omega
  simp [dimsOf,this]
 ·have h2: ¬l.length=0:=by omega
  simp only [dimsOf,h2,if_false]
theorem Zo3 (a b:List Int) (c d:Bool) (ha:a.length<=1048576) (hb:b.length<=1048576):PC 173 [.p (.list c (a.map eI)),.p (.list d (b.map eI))] (.bool (Y0 a b)):=by
 refine Za Tryz.func173 rfl Zwc ?_;simp (disch:=omega) only [Tryz.f173,go_sem,seval];refine cD ?_ ?_<;>intro h1<;>simp (disch:=omega) only [Sh.out h1,go_sem,seval]
 ·have: ¬a.length=b.length:=by omega
  simp [Y0,this]
 ·have h1':a.length=b.length:=by omega
  refine Zf [1,12,13] (fun k:Nat=> [(14,.p (.int .i64 k))]) (fun _=> []) (fun k=>k<=a.length/\ ∀j,j<k->nth a j<=nth b j) (fun k=>a.length-k) 0 (by simp) (Weak.mk ?_) ?_
  ·simp (disch:=omega) only [go_sem,seval]
  ·rintro k ⟨hk,hno⟩;simp (disch:=omega) only [go_sem,seval];refine cD ?_ ?_<;>intro h2<;>simp (disch:=omega) only [Sh.out h2,go_sem,seval]
   ·have hk2:k<a.length:=by omega
    refine cD ?_ ?_<;>intro h3<;>simp (disch:=omega) only [Sh.out h3,go_sem,seval]
    ·have:Y0 a b=false:=by
      cases hf:Y0 a b with
      | false=>rfl
      | true=>simp [Y0,List.all_eq_true] at hf;have:=hf.2 k hk2;omega
     rw [this]
    ·exact ⟨k+1,⟨by omega,Zi.2 ⟨hno,by omega⟩⟩,by omega,wk⟩
   ·have hkl:k=a.length:=by omega
    subst hkl
    have:Y0 a b=true:=by
     simp only [Y0,Bool.and_eq_true,decide_eq_true_eq,List.all_eq_true,List.mem_range];exact ⟨h1',fun i hi=>hno i hi⟩
    rw [this]
theorem Znr (t:Typ) (s:Int) (h1:t.skills<9223372036854775808) (h2:s<9223372036854775808):PC 169 [.p (U7 t),.p (.int .i64 s)] (.bool (Yu t s)):=by
 refine Za Tryz.func169 rfl Zwq ?_;simp (disch:=omega) only [Tryz.f169,go_sem,seval];refine gT ?_ ?_<;>intro c1<;>simp (disch:=omega) only [Sh.out c1,go_sem,seval]
 ·refine gT ?_ ?_<;>intro c2<;>simp (disch:=omega) only [Sh.out c2,go_sem,seval]
  ·obtain ⟨M,hM⟩: ∃M:Nat,t.skills=(M:Int):=⟨t.skills.toNat,by omega⟩;obtain ⟨S,rfl⟩: ∃S:Nat,s=(S:Int):=⟨s.toNat,by omega⟩;have hb:=Jv (S:=S) (M:=M) (by omega)
   have e:Yu t (S:Int)=(List.range 63).all fun i=> !S.testBit i||M.testBit i:=by
    have g1:(0:Int)<=(M:Int):=by omega
    have g2:(0:Int)<=(S:Int):=c2;simp only [Yu,hM,g1,g2,decide_true,Bool.true_and,Int.toNat_natCast]
   have hd:decide (IntKind.i64.wrap ((BitVec.ofInt 64 (S:Int)&&& ~~~BitVec.ofInt 64 (M:Int)).toNat:Int)=0)=((List.range 63).all fun i=> !S.testBit i||M.testBit i):=by
    rw [Bool.eq_iff_iff];simp only [decide_eq_true_eq];exact hb
   rw [e,hM];exact congrArg (fun b=>V.p (PV.bool b)) hd
  ·have: ¬ 0<=s:=by omega
   simp [Yu,this]
 ·have: ¬ 0<=t.skills:=by omega
  simp [Yu,this]
theorem Zql (a b:Int) (h: -1073741824<=a/\a<=1073741824/\ -1073741824<=b/\b<=1073741824):PC 235 [.p (.int .i64 a),.p (.int .i64 b)] (.int .i64 (a+b)):=by
 refine Za Tryz.func235 rfl ZuI ?_;simp (disch:=omega) only [Tryz.f235,go_sem,seval]
theorem Zo9 (a b:Int) (h: -1073741824<=a/\a<=1073741824/\ -1073741824<=b/\b<=1073741824):PC 236 [.p (.int .i64 a),.p (.int .i64 b)] (.int .i64 (a-b)):=by
 refine Za Tryz.func236 rfl Zr3 ?_;simp (disch:=omega) only [Tryz.f236,go_sem,seval]
def mkR (f:Nat->Int) (n k:Nat):List Int:=(List.range n).map fun j=>if j<k then f j else 0
theorem Znu {f:Nat->Int} {n k:Nat} :(mkR f n k).length=n:=by simp [mkR]
theorem Zj0 {f:Nat->Int} {n:Nat} :mkR f n 0=List.replicate n 0:=by
 apply List.ext_getElem (by simp [mkR]);intro i h1 h2;simp [mkR]
theorem ZkF {f:Nat->Int} {n:Nat} :mkR f n n=(List.range n).map f:=by
 apply List.ext_getElem (by simp [mkR]);intro i h1 h2;simp [mkR] at h1 ⊢;omega
theorem Zn6 {f:Nat->Int} {n k:Nat} (h:k<n):(mkR f n k).set k (f k)=mkR f n (k+1):=by
 apply List.ext_getElem (by simp [mkR]);intro i h1 h2;rw [List.getElem_set];simp [mkR] at h1 ⊢
 split
 ·rename_i e;subst e;simp
 ·rename_i e
  have:(i<k)↔(i<k+1):=by omega
  simp only [this]
theorem Zbi (a b:List Int) (c d:Bool) (g:FuncId) (f:Int->Int->Int) (hl:a.length=b.length) (ha:a.length<=1048576)
  (hf: ∀j,j<a.length->ACalls Tryz.prog g [.p (.int .i64 (nth a j)),.p (.int .i64 (nth b j))] [] fun x H'=>x= .p (.int .i64 (f (nth a j) (nth b j)))/\H'= []) :
  PT 234 [.p (.list c (a.map eI)),.p (.list d (b.map eI)),.fn (.func g) [] []] [.p (.list false (((List.range a.length).map fun j=>f (nth a j) (nth b j)).map eI)),.p (.int .i64 0)]:=by
 refine Zb [9] Tryz.func234 rfl Zs6 ?_;simp (disch:=omega) only [Tryz.f234,go_sem,seval];refine cD ?_ ?_<;>intro h0<;>simp (disch:=omega) only [Sh.out h0,go_sem,seval]
 ·omega
 ·have hz:=Zj0 (f:=fun j=>f (nth a j) (nth b j)) (n:=a.length);have hml:=fun k=>Znu (f:=fun j=>f (nth a j) (nth b j)) (n:=a.length) (k:=k);refine ZE [9] [0,1,2,8,19] (fun k:Nat=> [(20,.p (.int .i64 k))]) (fun k=> [.elems 1 ((mkR (fun j=>f (nth a j) (nth b j)) a.length k).map eI)]) (fun k=>k<=a.length) (fun k=>a.length-k) 0 (by simp) (Weak.mk ?_) ?_
  ·simp (disch:=omega) only [hz,go_sem,seval];rw [List.map_replicate];rfl
  ·intro k hk;simp (disch:=omega) only [go_sem,seval];refine cD ?_ ?_<;>intro h1<;>simp (disch:=omega) only [Sh.out h1,go_sem,seval]
   ·have hk2:k<a.length:=by omega
    have hs:=Zn6 (f:=fun j=>f (nth a j) (nth b j)) (n:=a.length) hk2;have hk3:=hml k;refine Zn 12 mixed (by kernel_rfl) (by kernel_rfl) ?_;simp (disch:=omega) only [go_sem,seval];refine Zj (hf k hk2) ?_;simp (disch:=omega) only [go_sem,seval];simp (disch:=first | omega | (simp only [List.length_cons,List.length_nil,List.length_append,List.length_map,List.length_take,List.length_drop]<;>omega)) only [go_sem,seval];refine ⟨k+1,by omega,by omega,Weak.mk ?_⟩;simp (disch:=omega) only [<- hs,go_sem,seval];rw [List.map_set];rfl
   ·have hkl:k=a.length:=by omega
    subst hkl;rw [<- ZkF];have hk3:=hml a.length;refine Zm (Weak.fz (o:=0) (by rfl)) ?_;refine Zd [] _ _ _ _ ?_;simp (disch:=omega) only [List.map_cons,List.map_nil,List.set_cons_succ,List.set_cons_zero,go_sem,seval];rw [if_pos hk3];exact we
theorem Zmh (a b:List Int) (c d:Bool) (hl:a.length=b.length) (ha:a.length<=1048576) (h: ∀j,j<a.length-> -1073741824<=nth a j/\nth a j<=1073741824/\ -1073741824<=nth b j/\nth b j<=1073741824):PT 209 [.p (.list c (a.map eI)),.p (.list d (b.map eI))] [.p (.list false ((ZhL a b).map eI)),.p (.int .i64 0)]:=by
 refine Zb [] Tryz.func209 rfl ZwA ?_;simp (disch:=omega) only [Tryz.f209,go_sem,seval];refine Xs (Zbi a b c d 235 (fun m n=>m+n) hl ha fun j hj=>Zql _ _ (h j hj)) ?_;simp (disch:=omega) only [ZhL,go_sem,seval];exact we
theorem Zww (a b:List Int) (c d:Bool) (hl:a.length=b.length) (ha:a.length<=1048576) (h: ∀j,j<a.length-> -1073741824<=nth a j/\nth a j<=1073741824/\ -1073741824<=nth b j/\nth b j<=1073741824):PT 210 [.p (.list c (a.map eI)),.p (.list d (b.map eI))] [.p (.list false ((Zy3 a b).map eI)),.p (.int .i64 0)]:=by
 refine Zb [] Tryz.func210 rfl ZsP ?_;simp (disch:=omega) only [Tryz.f210,go_sem,seval];refine Xs (Zbi a b c d 236 (fun m n=>m-n) hl ha fun j hj=>Zo9 _ _ (h j hj)) ?_;simp (disch:=omega) only [Zy3,go_sem,seval];exact we
theorem Zjv (x:Inst) (r:Rte) (ht:0<=r.typ/\r.typ<(x.types.length:Int)) (hv: ∀v∈r.visits,inB x v=true) (hl:r.visits.length<=1048576) (hxl:x.types.length<=1048576) (hol:x.orders.length<=1048576)
  (hs:(Z2 x r).skills<9223372036854775808) (ho: ∀o∈x.orders,o.skills<9223372036854775808) :
  PC 100 [.p (Zt x),.p (Wr r)] (.int .i64 (if (r.visits.any fun v=> !Yu (Z2 x r) (nth x.orders v.order.toNat).skills)=true then 18 else 0)):=by
 refine Za Tryz.func100 rfl Zqt ?_;simp (disch:=omega) only [Tryz.f100,go_sem,seval];refine Zf [2,3,8,9] (fun k:Nat=> [(10,.p (.int .i64 k))]) (fun _=> [Zc x,.cells [.p (.int .i64 r.typ),.p (.int .i64 r.start),.p (.list r.rests_c (r.rests.map eB)),.p (.list r.visits_c (r.visits.map Z5))]]) (fun k=>k<=r.visits.length/\ ∀j,j<k->Yu (Z2 x r) (nth x.orders (nth r.visits j).order.toNat).skills=true) (fun k=>r.visits.length-k) 0 (by simp) (Weak.mk ?_) ?_
 ·simp (disch:=omega) only [Zc,go_sem,seval]
 ·rintro k ⟨hk,hno⟩;simp (disch:=omega) only [Zc,go_sem,seval];refine cD ?_ ?_<;>intro h1<;>simp (disch:=omega) only [Sh.out h1,go_sem,seval]
  ·have hk2:k<r.visits.length:=by omega
   have hin:=hv _ (Zv hk2);simp only [inB,Bool.and_eq_true,decide_eq_true_eq] at hin;obtain ⟨i1,i2⟩:=hin
   have hi:(nth r.visits k).order.toNat<x.orders.length:=by omega
   have ho':=ho _ (Zv hi);refine Zg mixed (by kernel_rfl) (by kernel_rfl) ?_;simp (disch:=omega) only [go_sem,seval];refine Zj (Znr (Z2 x r) (nth x.orders (nth r.visits k).order.toNat).skills (by omega) (by omega)) ?_;simp (disch:=omega) only [go_sem,seval];refine cD ?_ ?_<;>intro h2<;>simp (disch:=omega) only [Sh.out h2,go_sem,seval]
   ·have:(r.visits.any fun v=> !Yu (Z2 x r) (nth x.orders v.order.toNat).skills)=true:=by
     rw [List.any_eq_true];exact ⟨_,Zv hk2,h2⟩
    rw [if_pos this]
   ·exact ⟨k+1,⟨by omega,Zi.2 ⟨hno,by simpa using h2⟩⟩,by omega,Weak.mk (by simp (disch:=omega) only [Zc,go_sem,seval])⟩
  ·have: ¬(r.visits.any fun v=> !Yu (Z2 x r) (nth x.orders v.order.toNat).skills)=true:=by
    rw [List.any_eq_true];rintro ⟨v,hv,e⟩;obtain ⟨j,hj,rfl⟩:=List.mem_iff_getElem.1 hv;have:=hno j (by omega);rw [Ze hj] at this;rw [this] at e;cases e
   rw [if_neg this]
def stF (x:Inst) (d:Nat) (ms:List Int) (k:Nat):List Int:=(ms.take k).foldl (fun s i=>if (nth x.orders i.toNat).pick.place<0 then ZhL s (nth x.orders i.toNat).load else s) (List.replicate d 0)
theorem Zer {x:Inst} {d:Nat} {ms:List Int} {k:Nat} (h:k<ms.length):stF x d ms (k+1)=if (nth x.orders (nth ms k).toNat).pick.place<0 then ZhL (stF x d ms k) (nth x.orders (nth ms k).toNat).load else stF x d ms k:=by
 rw [stF,List.take_succ_eq_append_getElem h,List.foldl_append,Ze h];rfl
theorem Zhv {x:Inst} {d:Nat} {ms:List Int} (hms: ∀i∈ms,∀j,j<d->0<=nth (nth x.orders i.toNat).load j/\nth (nth x.orders i.toNat).load j<=1000): ∀k,k<=ms.length->(stF x d ms k).length=d/\ ∀j,j<d->0<=nth (stF x d ms k) j/\nth (stF x d ms k) j<=1000*k
 | 0,_=>by
  refine ⟨by simp [stF],fun j hj=> ?_⟩
  have:nth (stF x d ms 0) j=0:=by
   show nth (List.replicate d 0) j=0
   rw [Ze (by simpa using hj)];simp
  omega
 | k+1,h=>by
  obtain ⟨h1,h2⟩:=Zhv hms k (by omega);rw [Zer (by omega)]
  split
  ·refine ⟨by simp [ZhL,h1],fun j hj=> ?_⟩;have a1:=h2 j hj;have a2:=hms _ (Zv (show k<ms.length by omega)) j hj;rw [ZhL,V7 (by omega)];omega
  ·exact ⟨h1,fun j hj=>by have:=h2 j hj;omega⟩
theorem Zn4 (x:Inst) (S:Int) (d:Nat) (hd:d<=3) (hol:x.orders.length<=1048576) (hms: ∀i∈XS S 63,0<=i/\i<(x.orders.length:Int)) (hml:(XS S 63).length<=63)
  (hld: ∀o∈x.orders,o.load.length=d/\ ∀n∈o.load,0<=n/\n<=1000) :
  PC 207 [.p (Zt x),.p (.int .i64 S),.p (.int .i64 (d:Int))] (.list false ((stF x d (XS S 63) (XS S 63).length).map eI)):=by
 have hmo: ∀i∈XS S 63,i.toNat<x.orders.length:=fun i hi=>by have:=hms i hi;omega
 have hrg:=Zhv (x:=x) (d:=d) (ms:=XS S 63) fun i hi j hj=>by
  obtain ⟨l1,l2⟩:=hld _ (Zv (hmo i hi));exact l2 _ (Zv (by omega))
 refine Za Tryz.func207 rfl ZrF ?_;simp (disch:=omega) only [Tryz.f207,go_sem,seval];refine (Jp S).useF ?_;simp (disch:=omega) only [go_sem,seval];refine Zm ((Weak.fz (o:=1) (by rfl)).trans (Weak.fz (o:=2) (by rfl))) ?_;simp (disch:=omega) only [List.map_cons,List.map_nil,List.set_cons_succ,List.set_cons_zero,List.cons_append,List.nil_append,List.length_replicate,eq_self,if_true,go_sem,seval]
 have hz:List.replicate d (PV.int .i64 0)=(stF x d (XS S 63) 0).map eI:=by
  show _=(List.replicate d 0).map eI
  rw [List.map_replicate];rfl
 refine Zf [3,13,14] (fun k:Nat=> [(7,.p (.list false ((stF x d (XS S 63) k).map eI))),(15,.p (.int .i64 k))]) (fun _=> [Zc x,.dead,.dead]) (fun k=>k<=(XS S 63).length) (fun k=>(XS S 63).length-k) 0 (by simp) (Weak.mk ?_) ?_
 ·simp (disch:=omega) only [Zc,hz,go_sem,seval]
 ·intro k hk;have hk1:=hrg k hk;have hsn:=fun h=>Zer (x:=x) (d:=d) (ms:=XS S 63) (k:=k) h;simp (disch:=omega) only [Zc,go_sem,seval];refine cD ?_ ?_<;>intro h1<;>simp (disch:=omega) only [Sh.out h1,go_sem,seval]
  ·have hk2:k<(XS S 63).length:=by omega
   have hm:=hms _ (Zv hk2);have hi:=hmo _ (Zv hk2);have hlo:=hld _ (Zv hi);have hsn:=hsn hk2;simp (disch:=omega) only [go_sem,seval];refine cD ?_ ?_<;>intro h2<;>simp (disch:=omega) only [Sh.out h2,go_sem,seval]
   ·rw [if_pos h2] at hsn;refine Xs (Zmh (stF x d (XS S 63) k) (nth x.orders (nth (XS S 63) k).toNat).load false (nth x.orders (nth (XS S 63) k).toNat).load_c (by omega) (by omega) fun j hj=> ?_) ?_
    ·have b1:=hk1.2 j (by omega);have b2:=hlo.2 _ (Zv (show j<(nth x.orders (nth (XS S 63) k).toNat).load.length by omega));omega
    ·simp (disch:=omega) only [go_sem,seval];exact ⟨k+1,by omega,by omega,Weak.mk (by simp (disch:=omega) only [Zc,hsn,go_sem,seval])⟩
   ·rw [if_neg h2] at hsn;exact ⟨k+1,by omega,by omega,Weak.mk (by simp (disch:=omega) only [Zc,hsn,go_sem,seval])⟩
  ·have hkl:k=(XS S 63).length:=by omega
   subst hkl
   trivial
theorem ZfG {p : Nat -> Bool} {n : Nat} (h : ∀ i, n <= i -> p i = false) : ∀ k, n <= k -> (List.range k).filter p = (List.range n).filter p := by
  intro k hk
  induction k with
  | zero => have : n = 0 := by omega
            subst this; rfl
  | succ k ih =>
    by_cases e : n = k + 1
    · subst e; rfl
    · rw [List.range_succ, List.filter_append, ih (by omega)]
      simp [h k (by omega)]
theorem ZDA {x:Inst} {l:List Vis} (hi:Inr x l) (hn:x.orders.length<=10):XS ((Yd l:Nat):Int) 63=((List.range x.orders.length).filter fun (i:Nat)=>hasO l (i:Int)).map fun (i:Nat)=>(i:Int):=by
 have key: ∀i:Nat,i<=62->sHas ((Yd l:Nat):Int) (i:Int)=hasO l (i:Int):=fun i h=>by
  rw [XK _ _ h,Bool.eq_iff_iff,QA,X0]
  constructor
  ·rintro ⟨v,hv,e⟩;exact ⟨v,hv,by have:=hi v hv;omega⟩
  ·rintro ⟨v,hv,e⟩;exact ⟨v,hv,by omega⟩
 unfold XS;rw [List.filter_congr (q:=fun (i:Nat)=>hasO l (i:Int)) (fun i hm=>key i (by have:=List.mem_range.1 hm;omega)),ZfG (n:=x.orders.length) (fun i h=> ?_) 63 (by omega)]
 cases hh:hasO l (i:Int) with
 | false=>rfl
 | true =>
  obtain ⟨v,hv,e⟩:=X0.1 hh;have:=hi v hv;omega
theorem Zn7 {x:Inst} {d:Nat} : ∀(L:List Nat) (g:Nat->Int),(L.map fun (i:Nat)=>(i:Int)).foldl (fun s (i:Int)=>if (nth x.orders i.toNat).pick.place<0 then ZhL s (nth x.orders i.toNat).load else s) ((List.range d).map g)=(List.range d).map fun j=>g j+(L.map fun i=>if (nth x.orders i).pick.place<0 then nth (nth x.orders i).load j else 0).sum
 | [],g=>by simp
 | i::L,g=>by
  rw [List.map_cons,List.foldl_cons,Int.toNat_natCast]
  by_cases h:(nth x.orders i).pick.place<0
  ·have e:ZhL ((List.range d).map g) (nth x.orders i).load=(List.range d).map fun j=>g j+nth (nth x.orders i).load j:=by
    rw [ZhL,List.length_map,List.length_range]
    exact List.map_congr_left fun j hj=>by rw [V7 (List.mem_range.1 hj)]
   rw [if_pos h,e,Zn7 L];refine List.map_congr_left fun j _=> ?_;rw [List.map_cons,List.sum_cons,if_pos h];omega
  ·rw [if_neg h,Zn7 L];refine List.map_congr_left fun j _=> ?_;rw [List.map_cons,List.sum_cons,if_neg h];omega
theorem ZhW {x:Inst} {l:List Vis} (hi:Inr x l) (hn:x.orders.length<=10):stF x (dimsOf x.types).toNat (XS ((Yd l:Nat):Int) 63) (XS ((Yd l:Nat):Int) 63).length=WL x l 0:=by
 rw [stF,List.take_length,ZDA hi hn];have:=Zn7 (x:=x) (d:=(dimsOf x.types).toNat) ((List.range x.orders.length).filter fun (i:Nat)=>hasO l (i:Int)) fun _=>0
 have e:(List.range (dimsOf x.types).toNat).map (fun _=>(0:Int))=List.replicate (dimsOf x.types).toNat 0:=by
  rw [List.map_const',List.length_range]
 rw [e] at this;rw [this,WL];refine List.map_congr_left fun j _=> ?_;rw [Int.zero_add,W4,ZfV]
 congr 1
 refine List.map_congr_left fun i _=> ?_;rw [ZlA]
 by_cases h:(nth x.orders i).pick.place<0<;>cases hasO l (i:Int)<;>simp [h]
theorem ZkP {x:Inst} {l:List Vis} {n j:Nat} {d:Nat} (hj:j<d) (hld: ∀o∈x.orders,o.load.length=d/\ ∀n∈o.load,0<=n/\n<=1000) (hn:x.orders.length<=10):0<=ZfV x l n j/\ZfV x l n j<=10000:=by
 have key:=Zgi (f:=fun i=>if i<x.orders.length then (if (onB x l n i&&hasO l i)=true then nth (nth x.orders i).load j else 0) else 0) (b:=1000) (by omega) (fun q=>by
  split
  ·rename_i hq
   split
   ·obtain ⟨h1,h2⟩:=hld _ (Zv hq);exact h2 _ (Zv (by omega))
   ·omega
  ·omega) x.orders.length
 have e:ZfV x l n j=((List.range x.orders.length).map fun i=>if i<x.orders.length then (if (onB x l n i&&hasO l i)=true then nth (nth x.orders i).load j else 0) else 0).sum:=by
  rw [ZfV]
  congr 1
  exact List.map_congr_left fun i hi=>by rw [if_pos (List.mem_range.1 hi)]
 rw [e]
 have:(1000:Int)*x.orders.length<=10000:=by omega
 omega
theorem Zlo {x:Inst} {l:List Vis} {n j:Nat} (hj:j<(dimsOf x.types).toNat) (hd:LdOk x):0<=nth (WL x l n) j/\nth (WL x l n) j<=10000:=by
 rw [WL,V7 hj];exact ZkP hj (fun o ho=>by obtain ⟨h1,h2⟩:=hd.load o ho;exact ⟨by omega,h2⟩) hd.ord
theorem Ze5 (l:List Vis) (c:Bool) (n:Nat) (hn:n<l.length) (hl:l.length<=1048576):PC 251 [.p (.list c (l.map Z5)),.p (.int .i64 (n:Nat))] (.bool (Ws l n)):=by
 refine Za Tryz.func251 rfl ZwC ?_;simp (disch:=omega) only [Tryz.f251,go_sem,seval];refine Zf [0,1] (fun k:Nat=> [(5,.p (.int .i64 k))]) (fun _=> []) (fun k=>k<=n/\ ∀j,j<k->(nth l j).order≠(nth l n).order) (fun k=>n-k) 0 (by simp) (Weak.mk ?_) ?_
 ·simp (disch:=omega) only [go_sem,seval]
 ·rintro k ⟨hk,hno⟩;simp (disch:=omega) only [go_sem,seval];refine cD ?_ ?_<;>intro h1<;>simp (disch:=omega) only [Sh.out h1,go_sem,seval]
  ·have hk2:k<n:=by omega
   have hk3:k<l.length:=by omega
   refine Zg mixed (by kernel_rfl) (by kernel_rfl) ?_;simp (disch:=omega) only [go_sem,seval];refine cD ?_ ?_<;>intro h2<;>simp (disch:=omega) only [Sh.out h2,go_sem,seval]
   ·have:Ws l n=false:=by
     unfold Ws;rw [Bool.not_eq_false',List.any_eq_true];exact ⟨nth l k,KM hk2 hk3,by simpa using h2⟩
    rw [this]
   ·exact ⟨k+1,⟨by omega,Zi.2 ⟨hno,h2⟩⟩,by omega,wk⟩
  ·have hkn:k=n:=by omega
   subst hkn
   have:Ws l k=true:=by
    unfold Ws;rw [Bool.not_eq_true',List.any_eq_false];intro v hv;obtain ⟨j,j1,j2,rfl⟩:=WT hv;simpa using hno j j1
   rw [this]
def W7 (c m o w:Int):AM.Obj:= .cells [.p (.int .i64 c),.p (.int .i64 m),.p (.int .i64 o),.p (.int .i64 w)]
theorem Qf {x:Inst} {l:List Vis} {t:Int} : ∀n:Nat,(0<=(chgF x l t n).1/\(chgF x l t n).1<=n)/\(0<=(chgF x l t n).2/\(chgF x l t n).2<=n)
 | 0=>by simp [chgF]
 | n+1=>by
  have ih:=Qf (x:=x) (l:=l) (t:=t) n;rw [chgF]
  split
  ·simp only
   constructor<;>split<;>omega
  ·omega
theorem Zgr (x:Inst) (r:Rte) (s:She) (hty:0<=r.typ/\r.typ<(x.types.length:Int)) (ho:x.orders.length<=1048576) (ht:x.types.length<=1048576) (hl:r.visits.length<=1048576) (hv:Inr x r.visits)
  (hc:0<=(Z2 x r).fixed/\(Z2 x r).fixed<=100000/\0<=(Z2 x r).perMile/\(Z2 x r).perMile<=100/\0<=(Z2 x r).perTick/\(Z2 x r).perTick<=100) (ho2:0<=(Z2 x r).opn/\(Z2 x r).opn<=4096)
  (hf: -4096<=s.fin/\s.fin<=8192) (hm:0<=s.miles/\s.miles<=1000000) :
  PC 231 [.p (Zt x),.p (Wr r),.p (Zhg s)] (Zb9 (ZlQ x r s)):=by
 have hti:r.typ.toNat<x.types.length:=by omega
 unfold ZlQ;have htd:nth x.types r.typ.toNat=Z2 x r:=rfl
 generalize Z2 x r=t at *
 have e1: ¬r.typ<0:=by omega
 have e2: ¬(x.types.length:Int)<=r.typ:=by omega
 have p1:0<=t.perMile*s.miles/\t.perMile*s.miles<=100*1000000:=⟨Int.mul_nonneg (by omega) (by omega),Int.mul_le_mul (by omega) (by omega) (by omega) (by omega)⟩
 have hW: -8192<=s.fin-t.opn/\s.fin-t.opn<=8192:=by omega
 have p2: -819200<=t.perTick*(s.fin-t.opn)/\t.perTick*(s.fin-t.opn)<=819200:=by
  generalize s.fin-t.opn=w at hW;have a1:=Int.mul_le_mul_of_nonneg_left hW.2 (show 0<=t.perTick by omega);have a2:=Int.mul_le_mul_of_nonneg_left hW.1 (show 0<=t.perTick by omega);omega
 have p3: -128<=(s.fin-t.opn).tdiv 64/\(s.fin-t.opn).tdiv 64<=128:=by
  generalize s.fin-t.opn=w at hW;rcases Int.le_total 0 w with h | h
  ·rw [Int.tdiv_eq_ediv_of_nonneg h];omega
  ·have:w.tdiv 64= -((-w) / 64):=by rw [<- Int.tdiv_eq_ediv_of_nonneg (by omega),Int.neg_tdiv,Int.neg_neg]
   rw [this];omega
 have p4:0<=(s.fin-t.opn).tdiv 64*(s.fin-t.opn).tdiv 64/\(s.fin-t.opn).tdiv 64*(s.fin-t.opn).tdiv 64<=16384:=by
  generalize (s.fin-t.opn).tdiv 64=q at p3;refine ⟨?_,?_⟩
  ·rcases Int.le_total 0 q with h | h
   ·exact Int.mul_nonneg h h
   ·exact Int.mul_nonneg_of_nonpos_of_nonpos h h
  ·rcases Int.le_total 0 q with h | h
   ·have:=Int.mul_le_mul p3.2 p3.2 h (by omega);omega
   ·have h2:0<= -q:=by omega
    have:=Int.mul_le_mul (show-q<=128 by omega) (show-q<=128 by omega) h2 (by omega);rw [Int.neg_mul_neg] at this;omega
 refine Za Tryz.func231 rfl ZqP ?_;simp (disch:=omega) only [Tryz.f231,e1,e2,htd,go_sem,seval];refine Zf [3,4,6,9] (fun k:Nat=> [(10,.p (.int .i64 k))]) (fun k=> [Zc x,ZB r,.cells [.p (.bool s.rest),.p (.int .i64 s.dep),.p (.list s.times_c (s.times.map eTim)),.p (.int .i64 s.fin),.p (.int .i64 s.miles)],W7 0 0 0 0,Xk t,W7 (t.fixed+t.perMile*s.miles+t.perTick*(s.fin-t.opn)) (chgF x r.visits r.typ k).1 (chgF x r.visits r.typ k).2 ((s.fin-t.opn).tdiv 64*(s.fin-t.opn).tdiv 64)]) (fun k=>k<=r.visits.length) (fun k=>r.visits.length-k) 0 (by simp) (Weak.mk ?_) ?_
 ·simp (disch:=omega) only [Zc,ZB,Xk,W7,chgF,go_sem,seval]
 ·intro k hk;have hch:=Qf (x:=x) (l:=r.visits) (t:=r.typ) k;simp (disch:=omega) only [Zc,ZB,Xk,W7,go_sem,seval];refine cD ?_ ?_<;>intro h1<;>simp (disch:=omega) only [Sh.out h1,go_sem,seval]
  ·have hk2:k<r.visits.length:=by omega
   obtain ⟨v1,v2⟩:=hv _ (Zp hk2)
   have e3: ¬(nth r.visits k).order<0:=by omega
   have e4: ¬(x.orders.length:Int)<=(nth r.visits k).order:=by omega
   have v3:(nth r.visits k).order.toNat<x.orders.length:=by omega
   simp (disch:=omega) only [e3,e4,go_sem,seval];refine (Ze5 r.visits r.visits_c k hk2 hl).use ?_;simp (disch:=omega) only [go_sem,seval];have hcs:chgF x r.visits r.typ (k+1)=_:=chgF.eq_2 x r.visits r.typ k;refine cD ?_ ?_<;>intro h2<;>simp (disch:=omega) only [Sh.out h2,go_sem,seval]
   ·have h2': ¬Ws r.visits k=true:=by simpa using h2
    exact ⟨k+1,by omega,by omega,Weak.mk (by simp (disch:=omega) only [Zc,ZB,Xk,W7,hcs,if_neg h2',go_sem,seval])⟩
   ·have h2':Ws r.visits k=true:=by simpa using h2
    refine Zg mixed (by kernel_rfl) (by kernel_rfl) ?_;simp (disch:=omega) only [go_sem,seval];refine gT ?_ ?_<;>intro h3<;>simp (disch:=omega) only [Sh.out h3,go_sem,seval]
    ·refine cD ?_ ?_<;>intro h4<;>simp (disch:=omega) only [Sh.out h4,go_sem,seval]
     ·have hn:ZG (nth x.orders (nth r.visits k).order.toNat).now r.typ=true:=by simp [ZG,h3,h4]
      refine Zg mixed (by kernel_rfl) (by kernel_rfl) ?_;simp (disch:=omega) only [go_sem,seval];refine gT ?_ ?_<;>intro h5<;>simp (disch:=omega) only [Sh.out h5,go_sem,seval]
      ·refine cD ?_ ?_<;>intro h6<;>simp (disch:=omega) only [Sh.out h6,go_sem,seval]
       ·have hl2:ZG (nth x.orders (nth r.visits k).order.toNat).last r.typ=true:=by simp [ZG,h5,h6]
        exact ⟨k+1,by omega,by omega,Weak.mk (by simp (disch:=omega) only [Zc,ZB,Xk,W7,hcs,if_pos h2',hn,hl2,Int.add_zero,Bool.false_eq_true,go_sem,seval])⟩
       ·have hl2:ZG (nth x.orders (nth r.visits k).order.toNat).last r.typ=false:=by simp only [Classical.not_not] at h6;simp [ZG,h6]
        exact ⟨k+1,by omega,by omega,Weak.mk (by simp (disch:=omega) only [Zc,ZB,Xk,W7,hcs,if_pos h2',hn,hl2,Int.add_zero,Bool.false_eq_true,go_sem,seval])⟩
      ·have hl2:ZG (nth x.orders (nth r.visits k).order.toNat).last r.typ=false:=by simp only [Classical.not_not] at h5;simp [ZG,h5]
       exact ⟨k+1,by omega,by omega,Weak.mk (by simp (disch:=omega) only [Zc,ZB,Xk,W7,hcs,if_pos h2',hn,hl2,Int.add_zero,Bool.false_eq_true,go_sem,seval])⟩
     ·have hn:ZG (nth x.orders (nth r.visits k).order.toNat).now r.typ=false:=by simp only [Classical.not_not] at h4;simp [ZG,h4]
      refine Zg mixed (by kernel_rfl) (by kernel_rfl) ?_;simp (disch:=omega) only [go_sem,seval];refine gT ?_ ?_<;>intro h5<;>simp (disch:=omega) only [Sh.out h5,go_sem,seval]
      ·refine cD ?_ ?_<;>intro h6<;>simp (disch:=omega) only [Sh.out h6,go_sem,seval]
       ·have hl2:ZG (nth x.orders (nth r.visits k).order.toNat).last r.typ=true:=by simp [ZG,h5,h6]
        exact ⟨k+1,by omega,by omega,Weak.mk (by simp (disch:=omega) only [Zc,ZB,Xk,W7,hcs,if_pos h2',hn,hl2,Int.add_zero,Bool.false_eq_true,go_sem,seval])⟩
       ·have hl2:ZG (nth x.orders (nth r.visits k).order.toNat).last r.typ=false:=by simp only [Classical.not_not] at h6;simp [ZG,h6]
        exact ⟨k+1,by omega,by omega,Weak.mk (by simp (disch:=omega) only [Zc,ZB,Xk,W7,hcs,if_pos h2',hn,hl2,Int.add_zero,Bool.false_eq_true,go_sem,seval])⟩
      ·have hl2:ZG (nth x.orders (nth r.visits k).order.toNat).last r.typ=false:=by simp only [Classical.not_not] at h5;simp [ZG,h5]
       exact ⟨k+1,by omega,by omega,Weak.mk (by simp (disch:=omega) only [Zc,ZB,Xk,W7,hcs,if_pos h2',hn,hl2,Int.add_zero,Bool.false_eq_true,go_sem,seval])⟩
    ·have hn:ZG (nth x.orders (nth r.visits k).order.toNat).now r.typ=false:=by simp only [Classical.not_not] at h3;simp [ZG,h3]
     refine Zg mixed (by kernel_rfl) (by kernel_rfl) ?_;simp (disch:=omega) only [go_sem,seval];refine gT ?_ ?_<;>intro h5<;>simp (disch:=omega) only [Sh.out h5,go_sem,seval]
     ·refine cD ?_ ?_<;>intro h6<;>simp (disch:=omega) only [Sh.out h6,go_sem,seval]
      ·have hl2:ZG (nth x.orders (nth r.visits k).order.toNat).last r.typ=true:=by simp [ZG,h5,h6]
       exact ⟨k+1,by omega,by omega,Weak.mk (by simp (disch:=omega) only [Zc,ZB,Xk,W7,hcs,if_pos h2',hn,hl2,Int.add_zero,Bool.false_eq_true,go_sem,seval])⟩
      ·have hl2:ZG (nth x.orders (nth r.visits k).order.toNat).last r.typ=false:=by simp only [Classical.not_not] at h6;simp [ZG,h6]
       exact ⟨k+1,by omega,by omega,Weak.mk (by simp (disch:=omega) only [Zc,ZB,Xk,W7,hcs,if_pos h2',hn,hl2,Int.add_zero,Bool.false_eq_true,go_sem,seval])⟩
     ·have hl2:ZG (nth x.orders (nth r.visits k).order.toNat).last r.typ=false:=by simp only [Classical.not_not] at h5;simp [ZG,h5]
      exact ⟨k+1,by omega,by omega,Weak.mk (by simp (disch:=omega) only [Zc,ZB,Xk,W7,hcs,if_pos h2',hn,hl2,Int.add_zero,Bool.false_eq_true,go_sem,seval])⟩
  ·have hkl:k=r.visits.length:=by omega
   subst hkl
   rfl
theorem SqOk.len {x:Inst} {l:List Vis} (h:SqOk x l) (hn:x.orders.length<=10):l.length<=20:=by
 have h1:=List.Nodup.length_le_of_subset (l₁ :=l) (l₂ :=(List.range 10).flatMap fun i:Nat=> [(⟨(i:Int),false⟩:Vis),⟨(i:Int),true⟩]) h.nd (fun v hv=>by
  obtain ⟨v1,v2⟩:=h.inr v hv;rw [List.mem_flatMap];refine ⟨v.order.toNat,List.mem_range.2 (by omega),?_⟩;obtain ⟨o,d⟩:=v
  have e:((o.toNat:Nat):Int)=o:=by simp only at v1;omega
  cases d<;>simp [e])
 have h2:((List.range 10).flatMap fun i:Nat=> [(⟨(i:Int),false⟩:Vis),⟨(i:Int),true⟩]).length=20:=rfl;omega
theorem SqOk.vis {x:Inst} {l:List Vis} (h:SqOk x l) {v:Vis} (hv:v∈l):Zas x v=true:=by
 obtain ⟨v1,v2⟩:=h.inr v hv;obtain ⟨i,hi⟩: ∃i:Nat,v.order=(i:Int):=⟨v.order.toNat,by omega⟩;have ho:=h.own (i:=i) ⟨v,hv,hi⟩
 have hpl:0<=(Xf x v).place:=by
  unfold Xf;rw [hi,Int.toNat_natCast]
  cases hd:v.drp with
  | true=>exact ho.isD (by rw [<- hi,<- hd];exact hv)
  | false=>exact ho.isP (by rw [<- hi,<- hd];exact hv)
 simp [Zas,inB,v1,v2,hpl]
theorem Zod {x:Inst} {r:Rte} (h:SqOk x r.visits) (hn:x.orders.length<=10) (ht:0<=r.typ/\r.typ<(x.types.length:Int)):WC x r=(decide (0<=r.start)&&decide (r.start<=4096)):=by
 have h1:r.visits.all (Zas x)=true:=List.all_eq_true.2 fun v hv=>h.vis hv;have h2:=h.len hn;simp [WC,h1,h2,ht.1,ht.2]
theorem Zhw {n:Net} (h:netOk n):netR n/\ ∀a∈n.arcs,0<=a.miles/\a.miles<=10000:=by
 obtain ⟨⟨⟨h1,_⟩,h2⟩,h3⟩:=h
 have ha: ∀a∈n.arcs,Zzf a/\0<=a.miles/\a.miles<=10000:=fun a hm=>by
  obtain ⟨i,hi,rfl⟩:=List.mem_iff_getElem.1 hm;have:=h3 i hi;unfold Zij at this;rw [Ze hi] at this;obtain ⟨⟨⟨⟨⟨_,g1⟩,_⟩,g2⟩,g3⟩,g4⟩:=this;refine ⟨⟨g2,g3,fun p hp=> ?_⟩,g1.2.2.1,g1.2.2.2.1⟩;obtain ⟨j,hj,rfl⟩:=List.mem_iff_getElem.1 hp;have:=g4 j hj;unfold U1 at this;rw [Ze hj] at this;simp only [Zj4,rng,decide_eq_true_eq] at this;exact ⟨this.1.1,this.1.2,this.2.1.1,this.2.1.2⟩
 exact ⟨⟨by omega,by omega,fun a hm=>(ha a hm).1⟩,fun a hm=>(ha a hm).2⟩
theorem Wh {x:Inst} (hx:InstOk x) {i:Nat} (hi:i<x.types.length):(0<=(nth x.types i).opn/\(nth x.types i).opn<=(nth x.types i).cls/\(nth x.types i).cls<=4096)/\(1<=(nth x.types i).drive/\(nth x.types i).drive<=4096)/\(0<=(nth x.types i).rest/\(nth x.types i).rest<=4096) /\
  (0<=(nth x.types i).fixed/\(nth x.types i).fixed<=100000/\0<=(nth x.types i).perMile/\(nth x.types i).perMile<=100/\0<=(nth x.types i).perTick/\(nth x.types i).perTick<=100)/\(0<=(nth x.types i).skills/\(nth x.types i).skills<=1073741823):=by
 have ht:=hx.types.2 i hi;unfold JN at ht;obtain ⟨⟨⟨⟨⟨⟨⟨⟨_,_⟩,_⟩,_⟩,_⟩,h1⟩,h2⟩,h3⟩,h4⟩:=ht;simp only [rng,decide_eq_true_eq] at h1 h2 h3 h4;omega
theorem Qm {x:Inst} {r:Rte} (hx:InstOk x) (ht:0<=r.typ/\r.typ<(x.types.length:Int)) (h:SqOk x r.visits):TrpOk x (Z2 x r) (ZA x r.visits):=by
 have hti:r.typ.toNat<x.types.length:=by omega
 obtain ⟨t1,t2,t3,_⟩:=Wh hx hti;obtain ⟨n1,n2⟩:=Zhw hx.net;refine ⟨n1,n2,t1,t2,t3,fun s hs=> ?_,by rw [Xi];exact h.len hx.orders.1⟩;obtain ⟨v,hv,rfl⟩:=List.mem_map.1 hs;obtain ⟨v1,v2⟩:=h.inr v hv
 have hi:v.order.toNat<x.orders.length:=by omega
 have ho:=hx.orders.2 _ hi;have hvis:=h.vis hv;have hp:=ho.pstp;have hd:=ho.dstp;simp only [stpOk,decide_eq_true_eq] at hp hd;simp only [Zas,Bool.and_eq_true,decide_eq_true_eq] at hvis;have h3:=hvis.2;unfold Xf at h3 ⊢
 split
 ·rename_i c;rw [if_pos c] at h3;omega
 ·rename_i c;rw [if_neg c] at h3;omega
theorem ZdX {x t sp} (h:TrpOk x t sp): ∀(bs:List Bool) (k:Nat) (L:Lab),k+bs.length=sp.length+1->LabR k L->(XV x t sp k L bs).2=0->LabR (sp.length+1) (XV x t sp k L bs).1/\(bs≠ []->(XV x t sp k L bs).1.she.fin=(XV x t sp k L bs).1.ready)
 | [],k,L,hk,hl,h0=>by
  simp at hk;subst hk;exact ⟨hl,fun h=>absurd rfl h⟩
 | b::bs,k,L,hk,hl,h0=>by
  simp at hk;rw [XV] at h0 ⊢
  split at h0
  ·rename_i c;rw [if_pos c];obtain ⟨h1,h2⟩:=ZdX h bs (k+1) _ (by omega) (Zc9 h (by omega) hl c) h0;refine ⟨h1,fun _=> ?_⟩
   cases bs with
   | nil =>
    simp at hk;subst hk;exact Zey (x:=x) (t:=t) (sp:=sp) (y:=L) (b:=b) (by rw [X3,if_pos c];rfl)
   | cons b2 bs=>exact h2 (by simp)
  ·simp at h0;rename_i c;exact absurd h0 c
theorem Zaa {x t sp} {st:Int} {r:List Bool} (h:TrpOk x t sp) (hs:0<=st/\st<=4096) (hr:r.length<=sp.length+1) (h0:(VN x t sp st r).2=0):(0<=(VN x t sp st r).1.fin/\(VN x t sp st r).1.fin<=8192)/\(0<=(VN x t sp st r).1.miles/\(VN x t sp st r).1.miles<=210000):=by
 have hL0:LabR 0 (labF t st):=⟨by have:=h.opn;simp only [labF];omega,by simp [labF],by simp [labF,zShe]⟩;have hl:=h.len
 have key: ∀bs∈YG r (sp.length+1),(XV x t sp 0 (labF t st) bs).2=0->(0<=(XV x t sp 0 (labF t st) bs).1.she.fin/\(XV x t sp 0 (labF t st) bs).1.she.fin<=8192)/\(0<=(XV x t sp 0 (labF t st) bs).1.she.miles/\(XV x t sp 0 (labF t st) bs).1.she.miles<=210000):=fun bs hbs he=>by
  obtain ⟨q,hq,rfl⟩:=List.mem_map.1 hbs;have hql:=bestF_len.fromB_len _ _ hq;simp at hql
  have hne:r++q≠ []:=fun e=>by
   have h2:(r++q).length=0:=by rw [e];rfl
   rw [List.length_append] at h2;omega
  obtain ⟨g1,g2⟩:=ZdX h (r++q) 0 _ (by simp;omega) hL0 he;rw [g2 hne];have:=g1.rdy;have:=g1.mil;omega
 unfold VN at h0 ⊢
 cases hf:fmL WZ none ((YG r (sp.length+1)).filterMap (Uw (X3 x t sp) 0 (labF t st))) with
 | some L =>
  simp only;have:=bestF_len.fmL_mem _ _ hf;obtain ⟨bs,hbs,hrun⟩:=List.mem_filterMap.1 this;rw [Wk] at hrun
  split at hrun
  ·rename_i c;simp at hrun;subst hrun;exact key bs hbs c
  ·cases hrun
 | none =>
  simp only;simp [zShe]
theorem ZgK (x:Inst) (r:Rte) (ho:x.orders.length<=1048576) (ht:x.types.length<=1048576) (hl:r.visits.length<=1048576) (hbad:WC x r=false\/r.visits.length+1<r.rests.length) :
  PT 230 [.p (Zt x),.p (Wr r)] [.p (Zhg zShe),.p (.int .i64 2)]:=by
 refine Zb [] Tryz.func230 rfl ZlN ?_;simp (disch:=omega) only [Tryz.f230,go_sem,seval];refine (Zae x r ho ht hl).use ?_;simp (disch:=omega) only [go_sem,seval];refine gF ?_ ?_<;>intro h1<;>simp (disch:=omega) only [Sh.out h1,go_sem,seval]
 ·exact we (by simp (disch:=omega) only [zShe,List.map_nil,go_sem,seval])
 ·have h2:r.visits.length+1<r.rests.length:=hbad.resolve_left (by simpa using h1);refine cD ?_ ?_<;>intro h3<;>simp (disch:=omega) only [Sh.out h3,go_sem,seval]
  ·exact we (by simp (disch:=omega) only [zShe,List.map_nil,go_sem,seval])
  ·omega
theorem Zos (x:Inst) (r:Rte) (hx:InstOk x) (hl:r.visits.length<=1048576):PC 227 [.p (Zt x),.p (Wr r)] (.int .i64 (ZR x r.visits)):=by
 have hf:=Xe hx;have hr:=hx.rules;obtain ⟨h1,h2⟩:=List.append_eq_nil_iff.1 hr
 have ha:x.apart.length<=1048576:=by
  have h3:=(List.append_eq_nil_iff.1 h1).1;unfold hdr at h3
  split at h3
  ·simp at h3
  ·omega
 have hb:x.before.length<=1048576:=by
  have h3:=(List.append_eq_nil_iff.1 h2).1;unfold hdr at h3
  split at h3
  ·simp at h3
  ·omega
 have:=Zfm x r (by have:=hf.len;omega) hl ha hb hf.plc;rwa [ZnP hf] at this
def Zaj (x:Inst) (r:Rte):V:= .tup [.p (Zhg (Vw x r)),.p (Zb9 (QN x r)),.p (.int .i64 (Xj x r))]
theorem Xg {x:Inst} {r:Rte} {e:Int} (h:Xj x r=e) (h0:e≠0):Zaj x r= .tup [.p (Zhg zShe),.p (Zb9 zSco),.p (.int .i64 e)]:=by
 unfold Zaj Vw QN;rw [h,if_neg h0,if_neg h0]
theorem UW (x:Inst) (r:Rte) (hx:InstOk x) (hl:r.visits.length<=1048576) (hrl:r.rests.length<=1048576):ACalls Tryz.prog 199 [.p (Zt x),.p (Wr r)] [] fun y H'=>y=Zaj x r/\H'= []:=by
 have hld:=WN hx;have htl:=hld.typ;have hol:=hld.ord;have chk:=Zos x r hx hl
 have htb:x.types.length<=6:=by have:=hx.types.1;simp only [rng,decide_eq_true_eq] at this;omega
 refine Zb [] Tryz.func199 rfl Zuc ?_;simp (disch:=omega) only [Tryz.f199,go_sem,seval];refine gF ?_ ?_<;>intro h1<;>simp (disch:=omega) only [Sh.out h1,go_sem,seval]
 ·have e:XD x r=2:=by rw [XD,if_pos (by omega)]
  rw [Xg (e:=2) (by rw [Xj,e];rfl) (by omega)];exact we (by simp (disch:=omega) only [zShe,zSco,List.map_nil,go_sem,seval])
 ·refine cD ?_ ?_<;>intro h2<;>simp (disch:=omega) only [Sh.out h2,go_sem,seval]
  ·have e:XD x r=2:=by rw [XD,if_pos (by omega)]
   rw [Xg (e:=2) (by rw [Xj,e];rfl) (by omega)];exact we (by simp (disch:=omega) only [zShe,zSco,List.map_nil,go_sem,seval])
  ·have hty:0<=r.typ/\r.typ<(x.types.length:Int):=by omega
   have hti:r.typ.toNat<x.types.length:=by omega
   refine (chk).use ?_;simp (disch:=omega) only [go_sem,seval];refine cD ?_ ?_<;>intro h3<;>simp (disch:=omega) only [Sh.out h3,go_sem,seval]
   ·have e:XD x r=ZR x r.visits:=by rw [XD,if_neg (fun h=>h hty),if_pos h3]
    rw [Xg (e:=ZR x r.visits) (by rw [Xj,e,if_neg h3]) h3];exact we (by simp (disch:=omega) only [zShe,zSco,List.map_nil,go_sem,seval])
   ·have h3':=Classical.not_not.1 h3;have hsq:=Wz h3'
    have hvn:0<r.visits.length:=by
     have:=hsq.ne
     cases hv:r.visits with
     | nil=>exact absurd hv this
     | cons a b=>simp
    have hok:=Qm hx hty hsq;have hnum:=Wh hx hti
    have hr0:XD x r=if (r.visits.any fun v=> !Yu (Z2 x r) (nth x.orders v.order.toNat).skills)=true then 18 else if Ua x (Z2 x r).cap r.visits=false then 17 else if ¬(0<=r.start/\r.start<=4096/\r.rests.length<=r.visits.length+1) then 2 else 0:=by
     rw [XD,if_neg (fun h=>h hty),if_neg h3]
    have htyp:nth x.types r.typ.toNat=Z2 x r:=rfl;rw [htyp] at hnum;have hf17:=Zln x r hx hl hty h3' chk;have hposs:=Zod hsq hol hty
    have hsk: ∀k,k<r.visits.length->(nth r.visits k).order.toNat<x.orders.length/\0<=(nth x.orders (nth r.visits k).order.toNat).skills/\(nth x.orders (nth r.visits k).order.toNat).skills<=1073741823:=fun k hk=>by
     obtain ⟨v1,v2⟩:=hsq.inr _ (Zp hk)
     have hi:(nth r.visits k).order.toNat<x.orders.length:=by omega
     exact ⟨hi,(hx.orders.2 _ hi).skills⟩
    refine Zf [2,3,4,5] (fun k:Nat=> [(8,.p (.int .i64 k))]) (fun _=> [Zc x,ZB r,.cells [.p (.bool false),.p (.int .i64 0),.p (.list true []),.p (.int .i64 0),.p (.int .i64 0)],W7 0 0 0 0])
     (fun k=>k<=r.visits.length/\ ∀j,j<k->Yu (Z2 x r) (nth x.orders (nth r.visits j).order.toNat).skills=true) (fun k=>r.visits.length-k) 0 (by simp) (Weak.mk ?_) ?_
    ·simp (disch:=omega) only [Zc,ZB,W7,go_sem,seval]
    ·rintro k ⟨hk,hno⟩;simp (disch:=omega) only [Zc,ZB,W7,go_sem,seval];refine cD ?_ ?_<;>intro h4<;>simp (disch:=omega) only [Sh.out h4,go_sem,seval]
     ·have hk2:k<r.visits.length:=by omega
      obtain ⟨s1,s2,s3⟩:=hsk k hk2;obtain ⟨v1,v2⟩:=hsq.inr _ (Zp hk2);refine Zg mixed (by kernel_rfl) (by kernel_rfl) ?_;simp (disch:=omega) only [htyp,go_sem,seval];refine Zj (Zjg (Z2 x r) (nth x.orders (nth r.visits k).order.toNat).skills (by omega) (by omega)) ?_;simp (disch:=omega) only [go_sem,seval];refine cD ?_ ?_<;>intro h5<;>simp (disch:=omega) only [Sh.out h5,go_sem,seval]
      ·have e:XD x r=18:=by
        rw [hr0,if_pos];exact List.any_eq_true.2 ⟨_,Zp hk2,h5⟩
       rw [Xg (e:=18) (by rw [Xj,e];rfl) (by omega)];exact we (by simp (disch:=omega) only [zShe,zSco,List.map_nil,go_sem,seval])
      ·exact ⟨k+1,⟨by omega,Zi.2 ⟨hno,by simpa using h5⟩⟩,by omega,Weak.mk (by simp (disch:=omega) only [Zc,ZB,W7,go_sem,seval])⟩
     ·have hkl:k=r.visits.length:=by omega
      subst hkl
      have hall: ¬(r.visits.any fun v=> !Yu (Z2 x r) (nth x.orders v.order.toNat).skills)=true:=fun h=>by
       obtain ⟨v,hv,hb⟩:=List.any_eq_true.1 h;obtain ⟨j,hj,rfl⟩:=List.mem_iff_getElem.1 hv;rw [<- Ze hj,hno j hj] at hb;simp at hb
      rw [if_neg hall] at hr0;refine (hf17).use ?_;simp (disch:=omega) only [go_sem,seval]
      cases hlb:Ua x (Z2 x r).cap r.visits with
      | false =>
       have e:XD x r=17:=by rw [hr0,hlb];rfl
       simp only [Bool.false_eq_true,if_false];simp (disch:=omega) only [go_sem,seval];rw [Xg (e:=17) (by rw [Xj,e];rfl) (by omega)];exact we (by simp (disch:=omega) only [zShe,zSco,List.map_nil,go_sem,seval])
      | true =>
       rw [hlb,if_neg (by simp)] at hr0;simp only [if_true];simp (disch:=omega) only [go_sem,seval]
       by_cases h6:0<=r.start/\r.start<=4096/\r.rests.length<=r.visits.length+1
       ·have e:XD x r=0:=by rw [hr0,if_neg (fun h=>h h6)]
        have hp:WC x r=true:=by rw [hposs];simp [h6.1,h6.2.1]
        have ee:Xj x r=(Xd x r).2:=by rw [Xj,if_pos e]
        have cb:=ZjM x r hok (by omega) htl hvn hp h6.2.2;have hbr:=Zaa hok ⟨h6.1,h6.2.1⟩ (by rw [Xi];exact h6.2.2);have hbr:(Xd x r).2=0->_:=hbr
        change (Xd x r).2=0->(0<=(Xd x r).1.fin/\(Xd x r).1.fin<=8192)/\(0<=(Xd x r).1.miles/\(Xd x r).1.miles<=210000) at hbr
        have es:Vw x r=if (Xd x r).2=0 then (Xd x r).1 else zShe:=by rw [Vw,ee]
        have ep:QN x r=if (Xd x r).2=0 then ZlQ x r (Xd x r).1 else zSco:=by rw [QN,ee]
        unfold Zaj;rw [ee,es,ep];clear ee es ep
        generalize Xd x r=q at *
        obtain ⟨sh,eb⟩:=q;simp only at cb hbr ⊢;refine Xs cb ?_;simp (disch:=omega) only [go_sem,seval];refine cD ?_ ?_<;>intro h7<;>simp (disch:=omega) only [Sh.out h7,go_sem,seval]
        ·exact we (by simp (disch:=omega) only [zShe,zSco,List.map_nil,go_sem,seval])
        ·have h7':=Classical.not_not.1 h7
         try rw [if_pos h7',if_pos h7']
         subst h7';obtain ⟨g1,g2⟩:=hbr rfl;refine Zn 5 mixed (by kernel_rfl) (by kernel_rfl) ?_;simp (disch:=omega) only [go_sem,seval];refine Zj (Zgr x r sh hty (by omega) htl hl hsq.inr hnum.2.2.2.1 (by omega) (by omega) (by omega)) ?_;simp (disch:=omega) only [go_sem,seval];exact we
       ·have e:XD x r=2:=by rw [hr0,if_pos h6]
        rw [Xg (e:=2) (by rw [Xj,e];rfl) (by omega)];refine Xs (ZgK x r (by omega) htl hl ?_) ?_
        ·by_cases c1:0<=r.start
         ·by_cases c2:r.start<=4096
          ·right;omega
          ·left;rw [hposs];simp [c2]
         ·left;rw [hposs];simp [c1]
        ·simp (disch:=omega) only [go_sem,seval];exact we (by simp (disch:=omega) only [zShe,zSco,List.map_nil,go_sem,seval])
theorem ZgX (x:Inst) (r:Rte) (hx:InstOk x) (hl:r.visits.length<=1048576) (hrl:r.rests.length<=1048576):PC 153 [.p (Zt x),.p (Wr r)] (.int .i64 (Xj x r)):=by
 have ce:=UW x r hx hl hrl;refine Za Tryz.func153 rfl ZqR ?_;simp (disch:=omega) only [Tryz.f153,go_sem,seval];unfold Zaj at ce;refine Zf2 ce ?_;simp (disch:=omega) only [go_sem,seval]
def gIx {α:Type} (f:α->Bool) (l:List α):Int:=match l.findIdx? f with | some i=>(i:Int) | none=> -1
theorem ZmF {α:Type} [Inhabited α] {f:α->Bool} {l:List α} {k:Nat} (hk:k<l.length) (h:f (nth l k)=true) (hno: ∀j,j<k->f (nth l j)=false):gIx f l=(k:Int):=by
 have:l.findIdx? f=some k:=by
  rw [List.findIdx?_eq_some_iff_getElem];refine ⟨hk,by rw [<- Ze hk];exact h,fun j hj=> ?_⟩;have h2:=hno j hj;rw [Ze (by omega)] at h2;simpa using h2
 simp [gIx,this]
theorem ZmL {α:Type} [Inhabited α] {f:α->Bool} {l:List α} (hno: ∀j,j<l.length->f (nth l j)=false):gIx f l= -1:=by
 have:l.findIdx? f=none:=by
  rw [List.findIdx?_eq_none_iff];intro x hx;obtain ⟨j,hj,rfl⟩:=List.mem_iff_getElem.1 hx;rw [<- Ze hj];exact hno j hj
 simp [gIx,this]
theorem ZmE {α:Type} {f:α->Bool} {l:List α} :decide (0<=gIx f l)=l.any f:=by
 unfold gIx
 cases h:l.findIdx? f with
 | none =>
  rw [List.findIdx?_eq_none_iff] at h
  have:l.any f=false:=by rw [List.any_eq_false];intro x hx;simp [h x hx]
  simp [this]
 | some i =>
  rw [List.findIdx?_eq_some_iff_getElem] at h;obtain ⟨h1,h2,_⟩:=h
  have:l.any f=true:=by rw [List.any_eq_true];exact ⟨l[i],List.getElem_mem _,h2⟩
  simp [this]
theorem ZiI (l:List (List Int)) (c:Bool) (g:FuncId) (caps:List V) (H:List AM.Obj) (f:List Int->Bool) (hl:l.length<=1048576) (hW:wkH H H.length H H) (hc:ZU H.length caps=true)
  (hg: ∀v∈l,ACalls Tryz.prog g (.p (eIL v)::caps) H fun x H'=>x= .p (.bool (f v))/\H'=H) :
  ACalls Tryz.prog 211 [.p (.list c (l.map eIL)),.fn (.func g) [] caps] H fun x H'=>x= .p (.int .i64 (gIx f l))/\H'=H:=by
 refine Xv Tryz.func211 rfl Zuo (Zd [] _ _ _ _ ?_);simp (disch:=omega) only [Tryz.f211,go_sem,seval];refine Zf [0,1,7] (fun k:Nat=> [(8,.p (.int .i64 k))]) (fun _=>H) (fun k=>k<=l.length/\ ∀j,j<k->f (nth l j)=false) (fun k=>l.length-k) 0 (by simp) (Weak.mk ?_) ?_
 ·simp (disch:=omega) only [hW,hc,go_sem,seval];simp
 ·rintro k ⟨hk,hno⟩;simp (disch:=omega) only [go_sem,seval];refine cD ?_ ?_<;>intro h<;>simp (disch:=omega) only [Sh.out h,go_sem,seval]
  ·have hk2:k<l.length:=by omega
   have hgk:=hg (nth l k) (Zp hk2);simp (disch:=omega) only [Ztk,go_sem,seval] at hgk;refine hgk.useH ?_;simp (disch:=omega) only [go_sem,seval];refine cD ?_ ?_<;>intro h2<;>simp (disch:=omega) only [Sh.out h2,go_sem,seval]
   ·rw [ZmF hk2 h2 hno]
   ·have h3:f (nth l k)=false:=by simpa using h2
    refine ⟨k+1,⟨by omega,Zi.2 ⟨hno,h3⟩⟩,by omega,Weak.mk ?_⟩;simp (disch:=omega) only [hW,hc,go_sem,seval];simp
  ·have hkl:k=l.length:=by omega
   subst hkl;rw [ZmL hno]
theorem ZaB (l:List (List Int)) (c:Bool) (g:FuncId) (caps:List V) (H:List AM.Obj) (f:List Int->Bool) (hl:l.length<=1048576) (hW:wkH H H.length H H) (hc:ZU H.length caps=true)
  (hg: ∀v∈l,ACalls Tryz.prog g (.p (eIL v)::caps) H fun x H'=>x= .p (.bool (f v))/\H'=H) :
  ACalls Tryz.prog 171 [.p (.list c (l.map eIL)),.fn (.func g) [] caps] H fun x H'=>x= .p (.bool (l.any f))/\H'=H:=by
 refine Xv Tryz.func171 rfl ZqT (Zd [] _ _ _ _ ?_);simp (disch:=omega) only [Tryz.f171,go_sem,seval];refine (ZiI l c g caps H f hl hW hc hg).useH ?_;simp (disch:=omega) only [go_sem,seval];rw [ZmE]
theorem Zmg (x:Inst) (r:Rte) (hx:InstOk x) (hl:r.visits.length<=1048576):PC 99 [.p (Zt x),.p (Wr r)] (.int .i64 (ZR x r.visits)):=by
 have hf:=Xe hx;obtain ⟨h1,h2⟩:=List.append_eq_nil_iff.1 hx.rules
 have ha:x.apart.length<=1048576:=by
  have h3:=(List.append_eq_nil_iff.1 h1).1;unfold hdr at h3
  split at h3
  ·simp at h3
  ·omega
 have hb:x.before.length<=1048576:=by
  have h3:=(List.append_eq_nil_iff.1 h2).1;unfold hdr at h3
  split at h3
  ·simp at h3
  ·omega
 exact Ze7 x r (by have:=hf.len;omega) hl ha hb
theorem ZmT {x:Inst} {l:List Vis} (hi:Inr x l) (hn:x.orders.length<=10):JH l=(((Yd l:Nat):Int),0):=by
 rw [JH,if_pos];rw [List.all_eq_true];intro v hv;have:=hi v hv;simp [inS];omega
theorem Zr6 {α:Type} (f:Nat->α) (n:Nat):(List.range n).map f++ [f n]=(List.range (n+1)).map f:=by rw [List.range_succ,List.map_append];rfl
theorem ZkV (x:Inst) (r:Rte) (hx:InstOk x) (hl:r.visits.length<=1048576) (h0:ZR x r.visits=0) :
  PT 170 [.p (Zt x),.p (Wr r)] [.p (.list false ((VZ x r.visits).map eIL)),.p (.int .i64 0)]:=by
 have hd:=WN hx;have hsq:=Wz h0;have hol:=hd.ord;have hso:=Zc6 r hl;rw [ZmT hsq.inr hol] at hso
 have hD:dimsOf x.types=((dimsOf x.types).toNat:Int):=by have:=hd.dim;omega
 have cd:=Zns x.types x.types_c hd.typ;rw [hD] at cd;have hst:=ZhW hsq.inr hol
 have hmem: ∀i∈XS ((Yd r.visits:Nat):Int) 63,0<=i/\i<(x.orders.length:Int):=fun i hi=>by
  rw [ZDA hsq.inr hol] at hi;obtain ⟨j,hj,rfl⟩:=List.mem_map.1 hi;have:=List.mem_range.1 (List.mem_filter.1 hj).1;omega
 have cs:=Zn4 x ((Yd r.visits:Nat):Int) (dimsOf x.types).toNat (by have:=hd.dim;omega) (by omega) hmem (Qu _ _) (fun o ho=>by have:=hd.load o ho;exact ⟨by omega,this.2⟩);rw [hst] at cs;refine Zb [20] Tryz.func170 rfl ZrJ ?_;simp (disch:=omega) only [Tryz.f170,go_sem,seval];refine (Zmg x r hx hl).use ?_;simp (disch:=omega) only [go_sem,seval];simp (disch:=omega) only [h0,go_sem,seval];refine Xs hso ?_;simp (disch:=omega) only [go_sem,seval];refine Zg mixed (by kernel_rfl) (by kernel_rfl) ?_;simp (disch:=omega) only [go_sem,seval]
 refine Zj (cd) ?_;simp (disch:=omega) only [go_sem,seval];refine Zj (cs) ?_;simp (disch:=omega) only [go_sem,seval];refine ZE [20] [2,37,38] (fun q:Nat×List (List Int)=> [(9,.p (.list false ((WL x r.visits q.1).map eI))),(10,.sl 2 0 q.2.length q.2.length),(39,.p (.int .i64 q.1))]) (fun q=> [Zc x,ZB r,.elems 1 (q.2.map eIL)]) (fun q=>q.1<=r.visits.length/\q.2=(List.range (q.1+1)).map (WL x r.visits)) (fun q=>r.visits.length-q.1) (0,[WL x r.visits 0]) (by simp) (Weak.mk ?_) ?_
 ·simp (disch:=omega) only [Zc,ZB,List.map_nil,List.map_cons,List.length_nil,List.length_cons,List.cons_append,List.nil_append,go_sem,seval]
 ·rintro ⟨k,o⟩ ⟨hk,ho⟩;simp only at hk ho
  have hol2:o.length=k+1:=by rw [ho];simp
  simp (disch:=omega) only [Zc,ZB,go_sem,seval];refine cD ?_ ?_<;>intro h1<;>simp (disch:=omega) only [Sh.out h1,go_sem,seval]
  ·have hk2:k<r.visits.length:=by omega
   obtain ⟨v1,v2⟩:=hsq.inr _ (Zp hk2)
   have hi:(nth r.visits k).order.toNat<x.orders.length:=by omega
   obtain ⟨l1,l2⟩:=hd.load _ (Zv hi);have hsu:=Zif hsq hk2;have hal:=VU (x:=x) (l:=r.visits) (n:=k);have hdm:=hd.dim
   have hrg: ∀j,j<(WL x r.visits k).length-> -1073741824<=nth (WL x r.visits k) j/\nth (WL x r.visits k) j<=1073741824/\ -1073741824<=nth (nth x.orders (nth r.visits k).order.toNat).load j/\nth (nth x.orders (nth r.visits k).order.toNat).load j<=1073741824:=fun j hj=>by
    have b1:=Zlo (x:=x) (l:=r.visits) (n:=k) (j:=j) (by omega) hd;have b2:=l2 _ (Zv (show j<(nth x.orders (nth r.visits k).order.toNat).load.length by omega));omega
   refine cD ?_ ?_<;>intro h2<;>simp (disch:=omega) only [Sh.out h2,go_sem,seval]
   ·rw [if_pos h2] at hsu;refine Xs (Zww (WL x r.visits k) (nth x.orders (nth r.visits k).order.toNat).load false (nth x.orders (nth r.visits k).order.toNat).load_c (by omega) (by omega) hrg) ?_;simp (disch:=omega) only [go_sem,seval];exact ⟨(k+1,o++ [WL x r.visits (k+1)]),⟨by simp only;omega,by simp only;rw [ho,Zr6]⟩,by simp only;omega,Weak.mk (by simp (disch:=omega) only [Zc,ZB,hsu,List.length_append,List.length_cons,List.length_nil,List.map_append,List.map_cons,List.map_nil,go_sem,seval])⟩
   ·rw [if_neg (by rw [h2];simp)] at hsu;refine Xs (Zmh (WL x r.visits k) (nth x.orders (nth r.visits k).order.toNat).load false (nth x.orders (nth r.visits k).order.toNat).load_c (by omega) (by omega) hrg) ?_;simp (disch:=omega) only [go_sem,seval];exact ⟨(k+1,o++ [WL x r.visits (k+1)]),⟨by simp only;omega,by simp only;rw [ho,Zr6]⟩,by simp only;omega,Weak.mk (by simp (disch:=omega) only [Zc,ZB,hsu,List.length_append,List.length_cons,List.length_nil,List.map_append,List.map_cons,List.map_nil,go_sem,seval])⟩
  ·have hkl:k=r.visits.length:=by omega
   subst hkl;refine Zm (Weak.fz (o:=2) (by rfl)) ?_;refine Zd [] _ _ _ _ ?_;simp (disch:=omega) only [List.map_cons,List.map_nil,List.set_cons_succ,List.set_cons_zero,go_sem,seval];rw [VZ,<- ho];exact we
theorem ZoK (x:Inst) (r:Rte) (a:List Int) (htl:x.types.length<=1048576) (hty:0<=r.typ/\r.typ<(x.types.length:Int)) (ha:a.length<=1048576) (hc:(Z2 x r).cap.length<=1048576) :
  ACalls Tryz.prog 172 [.p (eIL a),.ptr 0 0,.ptr 1 0] [Zc x,ZB r] fun y H'=>y= .p (.bool (!Y0 a (Z2 x r).cap))/\H'= [Zc x,ZB r]:=by
 have hti:r.typ.toNat<x.types.length:=by omega
 refine Zb [] Tryz.func172 rfl Ztq ?_;simp (disch:=omega) only [Tryz.f172,Zc,ZB,go_sem,seval];refine (Zo3 a (Z2 x r).cap false (Z2 x r).cap_c ha hc).use ?_;simp (disch:=omega) only [go_sem,seval];exact we (by simp (disch:=omega) only [Zc,ZB,go_sem,seval])
theorem Zkx (x:Inst) (r:Rte) (hx:InstOk x) (hl:r.visits.length<=1048576) (hty:0<=r.typ/\r.typ<(x.types.length:Int)) (h0:ZR x r.visits=0) :
  PC 101 [.p (Zt x),.p (Wr r)] (.int .i64 (if Ua x (Z2 x r).cap r.visits=true then 0 else 17)):=by
 have hd:=WN hx;have htl:=hd.typ
 have hti:r.typ.toNat<x.types.length:=by omega
 have hcp:(Z2 x r).cap.length<=1048576:=by
  have hcap:=hx.types.2 _ hti;unfold JN at hcap;obtain ⟨⟨⟨⟨⟨⟨⟨⟨_,_⟩,_⟩,_⟩,hcap⟩,_⟩,_⟩,_⟩,_⟩:=hcap;simp only [Vr,Bool.and_eq_true,decide_eq_true_eq,rng] at hcap;unfold Z2;omega
 have hll:(VZ x r.visits).length=r.visits.length+1:=by simp [VZ]
 have hvl:=(Wz h0).len hd.ord
 have hall:(VZ x r.visits).any (fun a=> !Y0 a (Z2 x r).cap)= !Ua x (Z2 x r).cap r.visits:=by
  rw [Ua,VZ,List.any_map,List.not_all_eq_any_not];rfl
 have e1: ¬r.typ<0:=by omega
 have e2: ¬(x.types.length:Int)<=r.typ:=by omega
 refine Za Tryz.func101 rfl ZsT ?_;simp (disch:=omega) only [Tryz.f101,e1,e2,go_sem,seval];refine Xs (ZkV x r hx hl h0) ?_;simp (disch:=omega) only [go_sem,seval];refine (ZaB (VZ x r.visits) false 172 [.ptr 0 0,.ptr 1 0] [Zc x,ZB r] (fun a=> !Y0 a (Z2 x r).cap) (by omega) (by simp (disch:=omega) only [Zc,ZB,go_sem,seval]) (by rfl) (fun a ha=>ZoK x r a htl hty ?_ hcp)).useH ?_
 ·obtain ⟨j,_,rfl⟩:=List.mem_map.1 ha;rw [VU];have:=hd.dim;omega
 ·simp (disch:=omega) only [Zc,ZB,go_sem,seval];rw [hall];refine cD ?_ ?_<;>intro h1<;>simp (disch:=omega) only [Sh.out h1,go_sem,seval]
  ·rw [if_neg (by simpa using h1)]
  ·rw [if_pos (by simpa using h1)]
theorem Jc {β:Type} [Inhabited β] {a b:List β} (hl:a.length=b.length) (h: ∀j,j<a.length->nth a j=nth b j):a=b:=by
 apply List.ext_getElem hl;intro i h1 h2;have:=h i h1;rwa [Ze h1,Ze h2] at this
def JP (a b:Rte):Bool:=decide (a.typ=b.typ)&&(decide (a.start=b.start)&&(decide (a.rests=b.rests)&&decide (a.visits=b.visits)))
def Zax (p q:Pln):Bool:=(decide (p.routes.length=q.routes.length)&&(List.range p.routes.length).all fun k=>JP (nth p.routes k) (nth q.routes k))&&decide (p.unserved=q.unserved)
theorem QL {a b:Rte} :JP a b=true↔a.typ=b.typ/\a.start=b.start/\a.rests=b.rests/\a.visits=b.visits:=by
 simp [JP]
theorem KD (a b:Rte) (ha:Zi3 a) (hb:Zi3 b):PC 60 [.p (Wr a),.p (Wr b)] (.bool (JP a b)):=by
 obtain ⟨a1,a2⟩:=ha;obtain ⟨b1,b2⟩:=hb
 have no:(a.typ=b.typ/\a.start=b.start/\a.rests=b.rests/\a.visits=b.visits->False)->JP a b=false:=fun h=>by
  cases hs:JP a b with
  | false=>rfl
  | true=>exact (h (QL.1 hs)).elim
 refine Za Tryz.func60 rfl ZBn ?_;simp (disch:=omega) only [Tryz.f60,go_sem,seval];refine gF ?_ ?_<;>intro h1<;>simp (disch:=omega) only [Sh.out h1,go_sem,seval]
 ·rw [no fun h=>h1 h.1]
 ·refine gF ?_ ?_<;>intro h2<;>simp (disch:=omega) only [Sh.out h2,go_sem,seval]
  ·rw [no fun h=>h2 h.2.1]
  ·refine gF ?_ ?_<;>intro h3<;>simp (disch:=omega) only [Sh.out h3,go_sem,seval]
   ·rw [no fun h=>h3 (by rw [h.2.2.1])]
   ·refine cD ?_ ?_<;>intro h4<;>simp (disch:=omega) only [Sh.out h4,go_sem,seval]
    ·rw [no fun h=>h4 (by rw [h.2.2.2])]
    ·have l1:a.rests.length=b.rests.length:=by omega
     have l2:a.visits.length=b.visits.length:=by omega
     refine Zf [2,3] (fun k:Nat=> [(5,.p (.int .i64 k))]) (fun _=> [ZB a,ZB b]) (fun k=>k<=a.rests.length/\ ∀j,j<k->nth a.rests j=nth b.rests j) (fun k=>a.rests.length-k) 0 (by simp) (Weak.mk ?_) ?_
     ·simp (disch:=omega) only [ZB,go_sem,seval]
     ·rintro k ⟨hk,hno⟩;simp (disch:=omega) only [ZB,go_sem,seval];refine cD ?_ ?_<;>intro h5<;>simp (disch:=omega) only [Sh.out h5,go_sem,seval]
      ·have hk2:k<a.rests.length:=by omega
       refine Zg mixed (by kernel_rfl) (by kernel_rfl) ?_;simp (disch:=omega) only [go_sem,seval];refine cD ?_ ?_<;>intro h6<;>simp (disch:=omega) only [Sh.out h6,go_sem,seval]
       ·rw [no fun h=>by rw [h.2.2.1] at h6;simp at h6]
       ·exact ⟨k+1,⟨by omega,Zi.2 ⟨hno,by simpa using h6⟩⟩,by omega,Weak.mk (by simp (disch:=omega) only [ZB,go_sem,seval])⟩
      ·have e1:a.rests=b.rests:=Jc l1 fun j hj=>hno j (by omega);refine Zf [2,3] (fun k:Nat=> [(6,.p (.int .i64 k))]) (fun _=> [ZB a,ZB b]) (fun k=>k<=a.visits.length/\ ∀j,j<k->nth a.visits j=nth b.visits j) (fun k=>a.visits.length-k) 0 (by simp) (Weak.mk ?_) ?_
       ·simp (disch:=omega) only [ZB,go_sem,seval]
       ·rintro k ⟨hk,hno2⟩;simp (disch:=omega) only [ZB,go_sem,seval];refine cD ?_ ?_<;>intro h7<;>simp (disch:=omega) only [Sh.out h7,go_sem,seval]
        ·have hk2:k<a.visits.length:=by omega
         refine Zg mixed (by kernel_rfl) (by kernel_rfl) ?_;simp (disch:=omega) only [go_sem,seval];refine cD ?_ ?_<;>intro h8<;>simp (disch:=omega) only [Sh.out h8,go_sem,seval]
         ·rw [no fun h=>by rw [h.2.2.2] at h8;simp at h8]
         ·exact ⟨k+1,⟨by omega,Zi.2 ⟨hno2,UZ.2 (by simpa using h8)⟩⟩,by omega,Weak.mk (by simp (disch:=omega) only [ZB,go_sem,seval])⟩
        ·rw [QL.2 ⟨by omega,by omega,e1,Jc l2 fun j hj=>hno2 j (by omega)⟩]
theorem Qi {p q:Pln} (h:(p.routes.length=q.routes.length/\(∀k,k<p.routes.length->JP (nth p.routes k) (nth q.routes k)=true)/\p.unserved=q.unserved)->False):Zax p q=false:=by
 cases hs:Zax p q with
 | false=>rfl
 | true =>
  simp only [Zax,Bool.and_eq_true,decide_eq_true_eq,List.all_eq_true,List.mem_range] at hs;exact (h ⟨hs.1.1,hs.1.2,hs.2⟩).elim
theorem Zbd {p q:Pln} (h1:p.routes.length=q.routes.length) (h2: ∀k,k<p.routes.length->JP (nth p.routes k) (nth q.routes k)=true) (h3:p.unserved=q.unserved):Zax p q=true:=by
 simp only [Zax,Bool.and_eq_true,decide_eq_true_eq,List.all_eq_true,List.mem_range];exact ⟨⟨h1,h2⟩,h3⟩
theorem Zlp (p q:Pln) (hp:p.routes.length<=1048576/\p.unserved.length<=1048576/\ ∀r∈p.routes,Zi3 r) (hq:q.routes.length<=1048576/\q.unserved.length<=1048576/\ ∀r∈q.routes,Zi3 r) :
  PC 22 [.p (JG p),.p (JG q)] (.bool (Zax p q)):=by
 have p1:=hp.1;have p2:=hp.2.1;refine Za Tryz.func22 rfl ZAY ?_;simp (disch:=omega) only [Tryz.f22,go_sem,seval];refine gF ?_ ?_<;>intro h1<;>simp (disch:=omega) only [Sh.out h1,go_sem,seval]
 ·rw [Qi fun h=>h1 (by rw [h.1])]
 ·refine cD ?_ ?_<;>intro h2<;>simp (disch:=omega) only [Sh.out h2,go_sem,seval]
  ·rw [Qi fun h=>h2 (by rw [h.2.2])]
  ·have l1:p.routes.length=q.routes.length:=by omega
   have l2:p.unserved.length=q.unserved.length:=by omega
   refine Zf [2,3] (fun k:Nat=> [(5,.p (.int .i64 k))]) (fun _=> [Zi7 p,Zi7 q]) (fun k=>k<=p.routes.length/\ ∀j,j<k->JP (nth p.routes j) (nth q.routes j)=true) (fun k=>p.routes.length-k) 0 (by simp) (Weak.mk ?_) ?_
   ·simp (disch:=omega) only [Zi7,go_sem,seval]
   ·rintro k ⟨hk,hno⟩;simp (disch:=omega) only [Zi7,go_sem,seval];refine cD ?_ ?_<;>intro h5<;>simp (disch:=omega) only [Sh.out h5,go_sem,seval]
    ·have hk2:k<p.routes.length:=by omega
     refine Zg mixed (by kernel_rfl) (by kernel_rfl) ?_;simp (disch:=omega) only [go_sem,seval];refine Zj (KD (nth p.routes k) (nth q.routes k) (hp.2.2 _ (Zv hk2)) (hq.2.2 _ (Zv (by omega)))) ?_;simp (disch:=omega) only [go_sem,seval]
     cases hs:JP (nth p.routes k) (nth q.routes k) with
     | false =>
      rw [Qi fun h=>by have:=h.2.1 k hk2;rw [hs] at this;cases this];simp (disch:=omega) only [hs,Bool.not_false,go_sem,seval]
     | true =>
      simp (disch:=omega) only [hs,Bool.not_true,Bool.false_eq_true,go_sem,seval];exact ⟨k+1,⟨by omega,Zi.2 ⟨hno,hs⟩⟩,by omega,Weak.mk (by simp (disch:=omega) only [Zi7,go_sem,seval])⟩
    ·refine Zf [2,3] (fun k:Nat=> [(6,.p (.int .i64 k))]) (fun _=> [Zi7 p,Zi7 q]) (fun k=>k<=p.unserved.length/\ ∀j,j<k->nth p.unserved j=nth q.unserved j) (fun k=>p.unserved.length-k) 0 (by simp) (Weak.mk ?_) ?_
     ·simp (disch:=omega) only [Zi7,go_sem,seval]
     ·rintro i ⟨hi,hno2⟩;simp (disch:=omega) only [Zi7,go_sem,seval];refine cD ?_ ?_<;>intro h7<;>simp (disch:=omega) only [Sh.out h7,go_sem,seval]
      ·have hk2:i<p.unserved.length:=by omega
       refine Zg mixed (by kernel_rfl) (by kernel_rfl) ?_;simp (disch:=omega) only [go_sem,seval];refine cD ?_ ?_<;>intro h8<;>simp (disch:=omega) only [Sh.out h8,go_sem,seval]
       ·rw [Qi fun h=>h8 (by rw [h.2.2])]
       ·exact ⟨i+1,⟨by omega,Zi.2 ⟨hno2,by omega⟩⟩,by omega,Weak.mk (by simp (disch:=omega) only [Zi7,go_sem,seval])⟩
      ·rw [Zbd l1 (fun j hj=>hno j (by omega)) (Jc l2 fun j hj=>hno2 j (by omega))]
end Go.Proofs.YthmplgaldjpgiaaGreatDoor.K
