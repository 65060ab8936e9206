/- Declarations that the closing texts need, part 15: joined by tools/slim.py. -/
import Derived.Test.YtmbelkfkhclnkaaGreatDoorYT14
import Derived.Lib.AtoiAllCases
import Derived.Lib.ItoaNum
import Derived.Lib.Join
set_option linter.unusedVariables false
set_option linter.unusedSimpArgs false
namespace Go.Proofs.YtmbelkfkhclnkaaGreatDoor.K
open Go Go.AM Go.Proofs
set_option maxRecDepth 8000
set_option maxHeartbeats 8000000
def Z0 (xs:List (List UInt8)) (sep:List UInt8):List UInt8:=Lib.join xs sep
def AX : List UInt8->List UInt8->List (List UInt8)
 | acc,[]=> [acc]
 | acc,b::l=>if b=32 then acc::AX [] l else AX (acc++ [b]) l
def Xc (s:List UInt8):List (List UInt8):=AX [] s
theorem ID : Wb []=0:=rfl
theorem WK (b:UInt8) (l:List UInt8):Wb (b::l)=if b=32 then 0 else Wb l+1:=by
 have h:=WJ 32 l
 have hi:Lib.indexByte (b::l) 32=if b=32 then 0 else if Lib.indexByte l 32= -1 then-1 else Lib.indexByte l 32+1:=by rw [Lib.indexByte];simp
 unfold Wb;rw [hi]
 by_cases e:b=32
 ·rw [if_pos e,if_pos e];rfl
 ·rw [if_neg e,if_neg e]
  by_cases e2:Lib.indexByte l 32= -1
  ·rw [if_pos e2,e2];simp
  ·rw [if_neg e2,if_neg Za,if_neg Za];omega
theorem Dm : ∀(s acc:List UInt8),AX acc s=if Wb s=s.length then [acc++s] else (acc++s.take (Wb s))::Xc (s.drop (Wb s+1))
 | [],acc=>by simp [AX,ID]
 | b::l,acc=>by
  have h:=Ug l;rw [AX,WK]
  by_cases e:b=32
  ·rw [if_pos e,if_pos e,if_neg Zb];simp [Xc]
  ·rw [if_neg e,if_neg e,Dm l]
   by_cases e2:Wb l=l.length
   ·rw [if_pos e2,if_pos (by simp [e2])];simp
   ·rw [if_neg e2,if_neg (by simpa using e2)];simp
theorem X9 (s:List UInt8):Xc s=if Wb s=s.length then [s] else s.take (Wb s)::Xc (s.drop (Wb s+1)):=by
 rw [Xc,Dm];simp
theorem BL : ∀(s:List UInt8),Wb s<s.length->nth s (Wb s)=32
 | [],h=>by simp at h
 | b::l,h=>by
  rw [WK] at h ⊢
  by_cases e:b=32
  ·rw [if_pos e];subst e;rfl
  ·rw [if_neg e] at h ⊢;have:=BL l (by simpa using h);simpa [nth] using this
theorem Gg : ∀(w r:List UInt8),32 ∉ w->Wb (w++32::r)=w.length
 | [],r,_=>by rw [List.nil_append,WK,if_pos rfl];rfl
 | b::l,r,h=>by
  rw [List.cons_append,WK,if_neg (fun e=>h (by simp [e])),Gg l r fun e=>h (by simp [e])];rfl
theorem Kj : ∀(w:List UInt8),32 ∉ w->Wb w=w.length
 | [],_=>rfl
 | b::l,h=>by rw [WK,if_neg (fun e=>h (by simp [e])),Kj l fun e=>h (by simp [e])];rfl
theorem M6 {w:List UInt8} (h:ZT w=true):32 ∉ w:=fun e=>by
 simp only [ZT,Bool.and_eq_true,List.all_eq_true] at h;have:=h.2 32 e;simp [Wq] at this
theorem UY {w:List UInt8} (h:ZT w=true):w≠ []:=by
 simp only [ZT,Bool.and_eq_true,decide_eq_true_eq] at h;exact h.1
theorem Cq {w:List UInt8} (h:ZT w=true):(nth w 0).toNat≠34:=by
 simp only [ZT,Bool.and_eq_true,List.all_eq_true,decide_eq_true_eq] at h;have:=h.2 _ (Zq (List.length_pos_iff.2 h.1));simp only [Wq,Bool.and_eq_true,decide_eq_true_eq] at this;exact this.2
def PartR (s:List UInt8) (n:Nat):Prop:=n<=s.length/\((nth s 0).toNat≠34->n=YF s)
inductive Wds : List UInt8->Option (List (List UInt8))->Prop
 | nil:Wds [] (some [])
 | bad (s:List UInt8) (h:s≠ []) (hp:PartR s 0):Wds s none
 | whole (s:List UInt8) (h:s≠ []) (hp:PartR s s.length):Wds s (some [s])
 | bad2 (s:List UInt8) (n:Nat) (hp:PartR s n) (h:0<n) (h2:n<s.length) (h3:(nth s n).toNat≠32\/n+1=s.length):Wds s none
 | cons (s:List UInt8) (n:Nat) (o:Option (List (List UInt8))) (hp:PartR s n) (h:0<n) (h2:n<s.length) (h3:(nth s n).toNat=32) (h4:n+1<s.length) (ht:Wds (s.drop (n+1)) o):Wds s (o.map fun r=>s.take n::r)
theorem JG {s:List UInt8} {n:Nat} (h:0<n):nth (s.take n) 0=nth s 0:=by
 cases s with
 | nil=>simp
 | cons b l=>cases n with
  | zero=>omega
  | succ n=>rfl
theorem UV {s:List UInt8} {n:Nat} (hp:PartR s n) (hq:(nth s 0).toNat≠34) (hn:0<n):n=Wb s/\ZT (s.take n)=true:=by
 have h:=hp.2 hq;unfold YF at h
 split at h
 ·subst h;exact ⟨rfl,by assumption⟩
 ·omega
theorem CV {s:List UInt8} (h: ∀w∈Xc s,ZT w=true):(nth s 0).toNat≠34:=by
 rw [X9] at h;have hl:=Ug s
 split at h
 ·exact Cq (h s Zb)
 ·have h1:=h _ (List.mem_cons_self ..);have hw:=Cq h1
  have hn:0<Wb s:=by
   rcases Nat.eq_zero_or_pos (Wb s) with e | e
   ·rw [e] at h1;exact absurd rfl (UY h1)
   ·exact e
  rwa [JG hn] at hw
theorem dW {s:List UInt8} {o:Option (List (List UInt8))} (h:Wds s o): ∀ws,o=some ws->s≠ []->(∀w∈ws,ZT w=true)->Xc s=ws:=by
 induction h with
 | nil=>intro ws _ h;exact absurd rfl h
 | bad=>intro ws h;cases h
 | bad2=>intro ws h;cases h
 | whole s h hp =>
  intro ws e _ hw
  cases e
  have h1:=hw s Zb;rw [X9,if_pos (Kj s (M6 h1))]
 | cons s n o hp h h2 h3 h4 ht ih =>
  intro ws e _ hw
  cases o with
  | none=>cases e
  | some r =>
   cases e
   have h1:=hw _ (List.mem_cons_self ..);have hq:=Cq h1;rw [JG h] at hq;obtain ⟨rfl,_⟩:=UV hp hq h;rw [X9,if_neg Za,ih r rfl (fun e=>by have:=congrArg List.length e;simp at this;omega) fun w hw2=>hw w (by simp [hw2])]
theorem dX {s:List UInt8} {o:Option (List (List UInt8))} (h:Wds s o):(∀w∈Xc s,ZT w=true)->o=some (Xc s):=by
 induction h with
 | nil=>intro h;exact absurd rfl (UY (h [] (by simp [Xc,AX])))
 | bad s h hp =>
  intro hw;have e:=hp.2 (CV hw);exfalso;unfold YF at e
  split at e
  ·rename_i h1;rw [<- e] at h1;exact absurd rfl (UY h1)
  ·rename_i h1;refine h1 (hw _ ?_);rw [X9]
   split
   ·rename_i h2;rw [h2];simp
   ·exact List.mem_cons_self ..
 | whole s h hp =>
  intro hw;obtain ⟨e,h1⟩:=UV hp (CV hw) (List.length_pos_iff.2 h);rw [X9,if_pos e.symm]
 | bad2 s n hp h h2 h3 =>
  intro hw;obtain ⟨rfl,h1⟩:=UV hp (CV hw) h;have hs:=BL s h2;rcases h3 with h3 | h3
  ·rw [hs] at h3;exact absurd rfl h3
  ·rw [X9,if_neg Za] at hw;have:=hw _ (List.mem_cons_of_mem _ (show []∈Xc (s.drop (Wb s+1)) by rw [List.drop_of_length_le Za];simp [Xc,AX]));exact absurd rfl (UY this)
 | cons s n o hp h h2 h3 h4 ht ih =>
  intro hw;obtain ⟨rfl,h1⟩:=UV hp (CV hw) h;rw [X9,if_neg Za] at hw ⊢;rw [ih fun w hw2=>hw w (List.mem_cons_of_mem _ hw2)];rfl
theorem LB {s:List UInt8} {o:Option (List (List UInt8))} (h:Wds s o): ∀ws,o=some ws->ws.length<=s.length/\ ∀w∈ws,w≠ []/\w.length<=s.length:=by
 induction h with
 | nil=>intro ws e;cases e;simp
 | bad=>intro ws h;cases h
 | bad2=>intro ws h;cases h
 | whole s h hp =>
  intro ws e
  cases e
  have:=List.length_pos_iff.2 h;refine ⟨by simp;omega,fun w hw=> ?_⟩;simp at hw;subst hw;exact ⟨h,Nat.le_refl _⟩
 | cons s n o hp h h2 h3 h4 ht ih =>
  intro ws e
  cases o with
  | none=>cases e
  | some r =>
   cases e
   obtain ⟨i1,i2⟩:=ih r rfl;rw [List.length_drop] at i1 i2;refine ⟨by simp only [List.length_cons];omega,fun w hw=> ?_⟩;rcases List.mem_cons.1 hw with rfl | hw
   ·refine ⟨fun e=> ?_,by rw [List.length_take];omega⟩
    have:(s.take n).length=0:=by rw [e];rfl
    rw [List.length_take] at this;omega
   ·have:=i2 w hw;exact ⟨this.1,Za⟩
def Z4 (b:UInt8):Bool:=decide (48<=(b.toNat:Int))&&decide ((b.toNat:Int)<=57)
def ZF (a:Nat) (l:List UInt8):Nat:=l.foldl (fun a b=>a*10+(b.toNat-48)) a
def ZG (s:List UInt8):Int×Int :=
 if Zl s= []\/((nth (Zl s) 0).toNat=48/\s≠ [48]) then (0,3)
 else if (Zl s).all Z4=false then (0,3)
 else if s.take 1= [45] then (if ZF 0 (Zl s)<=9223372036854775808 then (-(ZF 0 (Zl s):Int),0) else (0,4))
 else if ZF 0 (Zl s)<9223372036854775808 then ((ZF 0 (Zl s):Int),0) else (0,4)
theorem UT : ∀(l:List UInt8) (a:Nat),a<=ZF a l
 | [],a=>Nat.le_refl _
 | b::l,a=>by
  have:=UT l (a*10+(b.toNat-48));simp only [ZF,List.foldl_cons] at this ⊢;omega
theorem BW : ∀(l:List UInt8) (a:Nat),a<18446744073709551616->l.all Z4=true->Lib.parseUint10 a l=if ZF a l<18446744073709551616 then .ok (ZF a l) else .range
 | [],a,ha,_=>by rw [Lib.parseUint10];exact (if_pos ha).symm
 | b::l,a,ha,h=>by
  have hd:=h;simp only [List.all_cons,Bool.and_eq_true,Z4,decide_eq_true_eq] at hd
  have h2:l.all Z4=true:=by simpa [Z4] using hd.2
  have hg:=UT l (a*10+(b.toNat-48));have he:ZF a (b::l)=ZF (a*10+(b.toNat-48)) l:=rfl;rw [Lib.parseUint10,if_pos Za,he]
  by_cases h3:1844674407370955162<=a
  ·rw [if_pos h3,if_neg Za]
  ·rw [if_neg h3]
   by_cases h4:18446744073709551616<=a*10+(b.toNat-48)
   ·rw [if_pos h4,if_neg Za]
   ·rw [if_neg h4,BW l _ Za h2]
theorem Fb {s:List UInt8} (h0:Zl s≠ []) (h:(Zl s).all Z4=true) :
  Lib.atoiAll s=if s.take 1= [45] then (if ZF 0 (Zl s)<=9223372036854775808 then .ok (-(ZF 0 (Zl s):Int)) else .range)
   else if ZF 0 (Zl s)<9223372036854775808 then .ok (ZF 0 (Zl s):Int) else .range:=by
 cases s with
 | nil=>exact absurd rfl h0
 | cons b l =>
  by_cases hb:b=45
  ·subst hb
   have e:Zl (45::l)=l:=by simp [Zl]
   rw [e] at h h0;rw [e,if_pos Zb,Lib.atoiAll];simp only [show (45:UInt8).toNat=45 from rfl,or_true,if_true,true_and,not_true,false_and,if_false];rw [Lib.parseMag,if_neg h0,BW l 0 Za h]
   by_cases h1:ZF 0 l<18446744073709551616
   ·rw [if_pos h1];simp only
    by_cases h2:9223372036854775808<ZF 0 l
    ·rw [if_pos h2,if_neg Za]
    ·rw [if_neg h2,if_pos Za]
   ·rw [if_neg h1,if_neg Za]
  ·have e:Zl (b::l)=b::l:=by simp [Zl,hb]
   rw [e] at h;have hd:=h;simp only [List.all_cons,Bool.and_eq_true,Z4,decide_eq_true_eq] at hd
   have h45:b.toNat≠45:=Za
   have h43:b.toNat≠43:=Za
   rw [e,if_neg (by simpa using hb),Lib.atoiAll];simp only [h43,h45,or_false,if_false,false_and,not_false_iff,true_and];rw [Lib.parseMag,if_neg Zb,BW (b::l) 0 Za h]
   by_cases h1:ZF 0 (b::l)<18446744073709551616
   ·rw [if_pos h1];simp only
    by_cases h2:9223372036854775808<=ZF 0 (b::l)
    ·rw [if_pos h2,if_neg Za]
    ·rw [if_neg h2,if_pos Za]
   ·rw [if_neg h1,if_neg Za]
theorem Gv {s:List UInt8} (h0:Zl s≠ []) (h:(Zl s).all Z4=true) (h1: ¬((nth (Zl s) 0).toNat=48/\s≠ [48])) :
  (∃n,Lib.atoiAll s= .ok n/\ZG s=(n,0))\/(Lib.atoiAll s= .range/\ZG s=(0,4)):=by
 have ha:=Fb h0 h
 have hn:ZG s=if s.take 1= [45] then (if ZF 0 (Zl s)<=9223372036854775808 then (-(ZF 0 (Zl s):Int),0) else (0,4)) else if ZF 0 (Zl s)<9223372036854775808 then ((ZF 0 (Zl s):Int),0) else (0,4):=by
  unfold ZG;rw [if_neg (by rintro (e | e);exact h0 e;exact h1 e),if_neg (by simp [h])]
 by_cases a:s.take 1= [45]
 ·rw [if_pos a] at ha hn
  by_cases b:ZF 0 (Zl s)<=9223372036854775808
  ·rw [if_pos b] at ha hn;exact .inl ⟨_,ha,hn⟩
  ·rw [if_neg b] at ha hn;exact .inr ⟨ha,hn⟩
 ·rw [if_neg a] at ha hn
  by_cases b:ZF 0 (Zl s)<9223372036854775808
  ·rw [if_pos b] at ha hn;exact .inl ⟨_,ha,hn⟩
  ·rw [if_neg b] at ha hn;exact .inr ⟨ha,hn⟩
theorem Ik {b:UInt8} (h:Z4 b=true):Wq b=true:=by
 simp only [Z4,Wq,Bool.and_eq_true,decide_eq_true_eq] at *
 omega
theorem VM {s:List UInt8} (h:(ZG s).2=0):ZT s=true:=by
 unfold ZG at h
 split at h
 ·cases h
 ·rename_i h1
  split at h
  ·cases h
  ·rename_i h2
   have h2:(Zl s).all Z4=true:=by simpa using h2
   have h3:(Zl s).all Wq=true:=by
    rw [List.all_eq_true] at h2 ⊢;exact fun b hb=>Ik (h2 b hb)
   have h0:Zl s≠ []:=fun e=>h1 (.inl e);have hs:s≠ []:=fun e=>h0 (by rw [e];rfl);rw [ZT,decide_eq_true hs,Bool.true_and];unfold Zl at h3
   split at h3
   ·rename_i h4
    cases s with
    | nil=>exact absurd rfl hs
    | cons b l =>
     simp at h4;subst h4;rw [List.all_cons,show Wq 45=true by decide];simpa using h3
   ·exact h3
theorem CM (n:Nat):QS n=Lib.decDigits n:=by
 induction n using Nat.strongRecOn with
 | _ n ih =>
  rw [QS,Lib.decDigits]
  split
  ·rfl
  ·rw [ih (n / 10) Za]
theorem Fy (n:Int):Lib.itoa n=Uc n:=by
 rw [Lib.itoa,Uc]
 split
 ·rw [CM]
 ·rw [CM,show n.toNat=n.natAbs by omega]
theorem Pv {k:Nat} (h:k<10):(UInt8.ofNat (48+k)).toNat=48+k:=by
 rw [UInt8.toNat_ofNat'];omega
theorem Fz : QS 0= [48]:=by rw [QS,dif_pos Za];rfl
set_option maxRecDepth 60000
theorem Wc (x:List UInt8) (r:List (List UInt8)) (sep:List UInt8):Z0 (x::r) sep=x++Lib.joinTail sep r:=Lib.join_cons _ _ _
theorem VH {sep:List UInt8} {B:Nat} : ∀(r:List (List UInt8)),(∀s∈r,s.length<=B)->(Lib.joinTail sep r).length<=r.length*(B+sep.length)
 | [],_=>by simp [Lib.joinTail]
 | x::r,h=>by
  have ih:=VH (sep:=sep) r fun s hs=>h s (by simp [hs]);have h1:=h x Zb
  simp only [Lib.joinTail,List.map_cons,List.flatten_cons,List.length_append,List.length_cons,Nat.add_mul,Nat.one_mul] at *
  omega
theorem Jt {sep:List UInt8} {B:Nat} {xs:List (List UInt8)} (h: ∀s∈xs,s.length<=B):(Z0 xs sep).length<=xs.length*(B+sep.length):=by
 cases xs with
 | nil=>simp [Z0,Lib.join_nil]
 | cons x r =>
  have ih:=VH (sep:=sep) r fun s hs=>h s (by simp [hs]);have h1:=h x Zb;rw [Wc]
  simp only [List.length_append,List.length_cons,Nat.add_mul,Nat.one_mul] at *
  omega
def VB (n:Int):List UInt8:=Uc n
def okD (n:Int):Prop:=eR n
theorem WB {n:Int} (h:okD n):(VB n).length<=20:=Fx n h
def QH (l:List Bool):List UInt8:=if l= [] then [46] else l.map fun b=>if b=true then 121 else 110
def okR (l:List Bool):Prop:=l.length<=4096
theorem G2 {l:List Bool} (h:okR l):(QH l).length<=4096:=by
 unfold QH
 split
 ·simp
 ·rw [List.length_map];exact h
def Px (b:Bool):UInt8:=if b=true then 121 else 110
def Uy (v:Vis):List UInt8:=(if v.drp=true then [45] else [43])++VB v.order
def YG (r:Rte):List (List UInt8):= [[114,111,117,116,101],VB r.typ,VB r.start,QH r.rests]
def XD (r:Rte):List UInt8:=Z0 (YG r++r.visits.map Uy) [32]++ [10]
def UK : List UInt8:= [117,110,115,101,114,118,101,100]
def Nf (p:Pln):List UInt8:=Z0 ([UK]++p.unserved.map VB) [32]++ [10]
def Dj (p:Pln):List UInt8:=(p.routes.map XD).flatten++Nf p
structure PrOk (p:Pln):Prop where
 routes:p.routes.length<=4096
 unserved:p.unserved.length<=4096
 rte: ∀r∈p.routes,r.visits.length<=4096/\okD r.typ/\okD r.start/\okR r.rests/\ ∀v∈r.visits,okD v.order
 uns: ∀u∈p.unserved,okD u
theorem Jz {r:Rte} (h:r.visits.length<=4096/\okD r.typ/\okD r.start/\okR r.rests/\ ∀v∈r.visits,okD v.order):(Z0 (YG r++r.visits.map Uy) [32]).length<=16797700:=by
 obtain ⟨h1,h2,h3,h4,h5⟩:=h
 have:=Jt (sep:= [32]) (B:=4096) (xs:=YG r++r.visits.map Uy) fun s hs=>by
  rcases List.mem_append.1 hs with hs | hs
  ·simp only [YG,List.mem_cons,List.not_mem_nil,or_false] at hs;rcases hs with rfl | rfl | rfl | rfl
   ·simp
   ·have:=WB h2;omega
   ·have:=WB h3;omega
   ·exact G2 h4
  ·obtain ⟨v,hv,rfl⟩:=List.mem_map.1 hs;have:=WB (h5 v hv);rw [Uy,List.length_append]
   split<;>simp<;>omega
 simp only [List.length_append,List.length_map,YG,List.length_cons,List.length_nil] at *
 omega
theorem Eb {p:Pln} (h:PrOk p) (k:Nat):(((p.routes.take k).map XD).flatten).length<=k*16797701:=by
 induction k with
 | zero=>simp
 | succ k ih =>
  by_cases hk:k<p.routes.length
  ·rw [List.take_succ_eq_append_getElem hk,List.map_append,List.flatten_append,List.length_append];have:=Jz (h.rte _ (List.getElem_mem hk))
   simp only [List.map_cons,List.map_nil,List.flatten_cons,List.flatten_nil,List.append_nil,XD,List.length_append,List.length_cons,List.length_nil] at *
   omega
  ·rw [List.take_of_length_le Za] at ih ⊢;exact Nat.le_trans ih (Nat.mul_le_mul_right _ (Nat.le_succ k))
def W9 (r:Rte) (q:Nat):List (List UInt8):=YG r++(r.visits.take q).map Uy
theorem Ea {r:Rte} {q:Nat} (h:q<r.visits.length):W9 r (q+1)=W9 r q++ [Uy (nth r.visits q)]:=by
 rw [W9,W9,List.take_succ_eq_append_getElem h,Zg h,List.map_append,List.append_assoc];rfl
theorem Gl {r:Rte} {q:Nat} (h:q<=r.visits.length):(W9 r q).length=4+q:=by simp [W9,YG];omega
def Vd (p:Pln) (q:Nat):List (List UInt8):= [UK]++(p.unserved.take q).map VB
theorem ED {p:Pln} {q:Nat} (h:q<p.unserved.length):Vd p (q+1)=Vd p q++ [VB (nth p.unserved q)]:=by
 rw [Vd,Vd,List.take_succ_eq_append_getElem h,Zg h,List.map_append,List.append_assoc];rfl
theorem Hi {p:Pln} {q:Nat} (h:q<=p.unserved.length):(Vd p q).length=1+q:=by simp [Vd];omega
theorem dT {g:FuncId} {args:List V} {R:PV->Prop} {H:List AM.Obj} {K:V->List AM.Obj->Prop} (h:ACalls Tryz.prog g args [] fun y H'=> ∃a,R a/\y= .p a/\H'= []) (k: ∀a,R a->K (.p a) H) (ha:Zx 0 args=true:=by rfl):ACalls Tryz.prog g args H K :=
 (h.behind ha H).mono fun x H' hq=>by
  obtain ⟨y,H1,⟨a,hr,rfl,rfl⟩,rfl,rfl⟩:=hq;simpa [Bf,Wv] using k a hr
theorem Me {g:FuncId} {args:List V} {R:PV->PV->Prop} {H:List AM.Obj} {K:V->List AM.Obj->Prop} (h:ACalls Tryz.prog g args [] fun y H'=> ∃a b,R a b/\y= .tup [.p a,.p b]/\H'= []) (k: ∀a b,R a b->K (.tup [.p a,.p b]) H) (ha:Zx 0 args=true:=by rfl):ACalls Tryz.prog g args H K :=
 (h.behind ha H).mono fun x H' hq=>by
  obtain ⟨y,H1,⟨a,b,hr,rfl,rfl⟩,rfl,rfl⟩:=hq;simpa [Bf,Wv] using k a b hr
theorem GW (s:List UInt8) (hs:s.length<=1048576):ACalls Tryz.prog 124 [.p (.str s)] [] fun y H'=> ∃a,(∃n:Nat,n<=s.length/\a= .int .i64 (n:Nat))/\y= .p a/\H'= []:=by
 refine Zd [] Tryz.func124 rfl ND ?_;simp (disch:=omega) only [Tryz.f124,go_sem,seval];refine Zm [0] (fun k:Nat=> [(3,.p (.int .i64 k))]) (fun _=> []) (fun k=>k<=s.length+1) (fun k=>s.length+1-k) 1 Zb (Weak.mk ?_) ?_
 ·simp (disch:=omega) only [go_sem,seval]
 ·intro k hk;simp (disch:=omega) only [go_sem,seval];refine cD ?_ ?_<;>intro h1<;>simp (disch:=omega) only [Sh.out h1,go_sem,seval]
  ·have hk2:k<s.length:=Za
   refine cD ?_ ?_<;>intro h2<;>simp (disch:=omega) only [Sh.out h2,go_sem,seval]
   ·exact ⟨k+2,Za,Za,wk⟩
   ·refine cD ?_ ?_<;>intro h3<;>simp (disch:=omega) only [Sh.out h3,go_sem,seval]
    ·exact ⟨_,[],wk,_,⟨k+1,Za,rfl⟩,rfl,rfl⟩
    ·exact ⟨k+1,Za,Za,wk⟩
  ·exact ⟨_,[],wk,_,⟨0,Za,rfl⟩,rfl,rfl⟩
def jK (a b:PV):Prop:= ∃x n:Int,(0<=x/\x<256)/\(0<=n/\n<=3)/\a= .int .u8 x/\b= .int .i64 n
theorem pV (z:Int):0<=IntKind.u8.wrap z/\IntKind.u8.wrap z<256:=by
 simp only [IntKind.wrap,IntKind.signed,IntKind.bits];simp;omega
theorem D2 (s:List UInt8) (hs:s.length<=1048576):ACalls Tryz.prog 169 [.p (.str s)] [] fun y H'=> ∃a b,jK a b/\y= .tup [.p a,.p b]/\H'= []:=by
 refine Zd [] Tryz.func169 rfl NU ?_;simp (disch:=omega) only [Tryz.f169,go_sem,seval]
 have hsl:s= []\/0<s.length:=by cases s<;>simp
 rcases hsl with he | hsl
 ·subst he;refine cD ?_ ?_<;>intro h1<;>simp (disch:=omega) only [Sh.out h1,go_sem,seval]
  ·exact ⟨_,[],wk,_,_,⟨0,0,Za,Za,rfl,rfl⟩,rfl,rfl⟩
  ·simp at h1
 ·have hb:=Vj (nth s 0);refine cD ?_ ?_<;>intro h1<;>simp (disch:=omega) only [Sh.out h1,go_sem,seval]
  ·exact absurd h1 (List.length_pos_iff.1 hsl)
  ·refine cD ?_ ?_<;>intro h2<;>simp (disch:=omega) only [Sh.out h2,go_sem,seval]
   ·exact ⟨_,[],wk,_,_,⟨((nth s 0).toNat:Nat),1,Za,Za,rfl,rfl⟩,rfl,rfl⟩
   ·refine cD ?_ ?_<;>intro h3<;>simp (disch:=omega) only [Sh.out h3,go_sem,seval]
    ·exact ⟨_,[],wk,_,_,⟨((nth s 0).toNat:Nat),1,Za,Za,rfl,rfl⟩,rfl,rfl⟩
    ·refine cD ?_ ?_<;>intro h4<;>simp (disch:=omega) only [Sh.out h4,go_sem,seval]
     ·exact ⟨_,[],wk,_,_,⟨10,1,Za,Za,rfl,rfl⟩,rfl,rfl⟩
     ·refine cD ?_ ?_<;>intro h5<;>simp (disch:=omega) only [Sh.out h5,go_sem,seval]
      ·refine cD ?_ ?_<;>intro h6<;>simp (disch:=omega) only [Sh.out h6,go_sem,seval]
       ·exact ⟨_,[],wk,_,_,⟨0,0,Za,Za,rfl,rfl⟩,rfl,rfl⟩
       ·refine Xg 6 mixed Zh Zh ?_;simp (disch:=omega) only [go_sem,seval];refine ZQ (Wf _ _) ?_;simp (disch:=omega) only [go_sem,seval];refine ZQ (Wf _ _) ?_;simp (disch:=omega) only [go_sem,seval];generalize Lib.indexByte [48,49,50,51,52,53,54,55,56,57,97,98,99,100,101,102] (nth s 1).toNat.toUInt8=hi;generalize Lib.indexByte [48,49,50,51,52,53,54,55,56,57,97,98,99,100,101,102] (nth s 2).toNat.toUInt8=lo;generalize hz:IntKind.u8.wrap (IntKind.i64.wrap _)=z
        have hw:0<=z/\z<256:=by rw [<- hz];exact pV _
        clear hz;refine gF ?_ ?_<;>intro g1<;>simp (disch:=omega) only [Sh.out g1,go_sem,seval]
        ·exact ⟨_,[],wk,_,_,⟨0,0,Za,Za,rfl,rfl⟩,rfl,rfl⟩
        ·refine gF ?_ ?_<;>intro g2<;>simp (disch:=omega) only [Sh.out g2,go_sem,seval]
         ·exact ⟨_,[],wk,_,_,⟨0,0,Za,Za,rfl,rfl⟩,rfl,rfl⟩
         ·refine gF ?_ ?_<;>intro g3<;>simp (disch:=omega) only [Sh.out g3,go_sem,seval]
          ·exact ⟨_,[],wk,_,_,⟨0,0,Za,Za,rfl,rfl⟩,rfl,rfl⟩
          ·refine gT ?_ ?_<;>intro g4<;>simp (disch:=omega) only [Sh.out g4,go_sem,seval]
           ·refine cD ?_ ?_<;>intro g5<;>simp (disch:=omega) only [Sh.out g5,go_sem,seval]
            ·exact ⟨_,[],wk,_,_,⟨0,0,Za,Za,rfl,rfl⟩,rfl,rfl⟩
            ·exact ⟨_,[],wk,_,_,⟨z,3,hw,Za,rfl,rfl⟩,rfl,rfl⟩
           ·exact ⟨_,[],wk,_,_,⟨z,3,hw,Za,rfl,rfl⟩,rfl,rfl⟩
      ·exact ⟨_,[],wk,_,_,⟨0,0,Za,Za,rfl,rfl⟩,rfl,rfl⟩
def oC (a b:PV):Prop:= ∃(t:List UInt8) (e:Int),a= .str t/\b= .int .i64 e
def bU (b:UInt8):PV:= .int .u8 (b.toNat:Nat)
theorem KZ : ∀l:List UInt8,Xa (l.map bU)=some l
 | []=>rfl
 | b::l=>by rw [List.map_cons,bU,J9,KZ l];simp
theorem dS (s:List UInt8) (hs:s.length<=1048576):ACalls Tryz.prog 125 [.p (.str s)] [] fun y H'=> ∃a b,oC a b/\y= .tup [.p a,.p b]/\H'= []:=by
 refine Zd [4,18] Tryz.func125 rfl NE ?_;simp (disch:=omega) only [Tryz.f125,go_sem,seval];have bad:oC (.str []) (.int .i64 3):=⟨_,_,rfl,rfl⟩;refine gF ?_ ?_<;>intro h1<;>simp (disch:=omega) only [Sh.out h1,go_sem,seval]
 ·exact ⟨_,[],wk,_,_,bad,rfl,rfl⟩
 ·refine gF ?_ ?_<;>intro h2<;>simp (disch:=omega) only [Sh.out h2,go_sem,seval]
  ·exact ⟨_,[],wk,_,_,bad,rfl,rfl⟩
  ·refine cD ?_ ?_<;>intro h3<;>simp (disch:=omega) only [Sh.out h3,go_sem,seval]
   ·exact ⟨_,[],wk,_,_,bad,rfl,rfl⟩
   ·have hr:((s.take (s.length-1)).drop 1).length<=1048576:=by simp;omega
    generalize (s.take (s.length-1)).drop 1=r at *
    refine ZW (US 2 rfl rfl ?_);simp (disch:=omega) only [go_sem,seval];refine ⟨_,_,El (S:=1) (by':=1) (z:= .int .u8 0) rfl Zh rfl rfl ⟨Za,Za,Za⟩,?_⟩;simp (disch:=omega) only [go_sem,seval];refine Ze [18] _ _ _ _ ?_;simp (disch:=omega) only [go_sem,seval];refine Zz [18] [0] (fun q:Nat×List UInt8=> [(4,.sl 0 0 q.2.length q.2.length),(5,.p (.int .i64 q.1))]) (fun q=> [.elems 1 (q.2.map bU)]) (fun q=>q.1<=r.length+3/\q.2.length<=q.1) (fun q=>r.length+3-q.1) (0,[]) Zb (Weak.mk ?_) ?_
    ·simp (disch:=omega) only [List.map_nil,List.length_nil,go_sem,seval]
    ·rintro ⟨k,l⟩ ⟨hk,hl⟩;simp only at hk hl;simp (disch:=omega) only [go_sem,seval];refine cD ?_ ?_<;>intro h4<;>simp (disch:=omega) only [Sh.out h4,go_sem,seval]
     ·have hk2:k<r.length:=Za
      have hb:=Vj (nth r k);have hlen:(l.map bU).length=l.length:=List.length_map ..
      have app: ∀b:UInt8,(l++ [b]).map bU=l.map bU++ [.int .u8 (b.toNat:Nat)]:=fun b=>by rw [List.map_append];rfl
      refine gF ?_ ?_<;>intro h5<;>simp (disch:=omega) only [Sh.out h5,go_sem,seval]
      ·exact ⟨_,[],wk,_,_,bad,rfl,rfl⟩
      ·refine gF ?_ ?_<;>intro h6<;>simp (disch:=omega) only [Sh.out h6,go_sem,seval]
       ·exact ⟨_,[],wk,_,_,bad,rfl,rfl⟩
       ·refine cD ?_ ?_<;>intro h7<;>simp (disch:=omega) only [Sh.out h7,go_sem,seval]
        ·exact ⟨_,[],wk,_,_,bad,rfl,rfl⟩
        ·refine cD ?_ ?_<;>intro h8<;>simp (disch:=omega) only [Sh.out h8,go_sem,seval]
         ·refine Me (D2 _ (by simp;omega)) ?_;rintro _ _ ⟨x,n,hx,hn,rfl,rfl⟩;obtain ⟨b,rfl⟩: ∃b:UInt8,x=(b.toNat:Nat):=⟨UInt8.ofNat x.toNat,by rw [UInt8.toNat_ofNat'];omega⟩;obtain ⟨n,rfl⟩:=Int.eq_ofNat_of_zero_le hn.1;simp (disch:=omega) only [go_sem,seval];refine cD ?_ ?_<;>intro h9<;>simp (disch:=omega) only [Sh.out h9,go_sem,seval]
          ·exact ⟨_,[],wk,_,_,bad,rfl,rfl⟩
          ·exact ⟨(k+n+1,l++ [b]),⟨by simp only;omega,by simp;omega⟩,by simp only;omega,Weak.mk (by simp (disch:=omega) only [app,Int.natCast_add,List.length_append,List.length_cons,List.length_nil,go_sem,seval])⟩
         ·exact ⟨(k+1,l++ [nth r k]),⟨by simp only;omega,by simp;omega⟩,by simp only;omega,Weak.mk (by simp (disch:=omega) only [app,List.length_append,List.length_cons,List.length_nil,go_sem,seval])⟩
     ·refine Zs (Weak.fz (o:=0) (by rfl)) ?_;refine Ze [] _ _ _ _ ?_;simp (disch:=omega) only [List.map_cons,List.map_nil,List.set_cons_succ,List.set_cons_zero,KZ,go_sem,seval];exact ⟨_,[],wk,_,_,⟨l,0,rfl,rfl⟩,rfl,rfl⟩
theorem I8 (s:List UInt8) (hs:s.length<=1048576):ACalls Tryz.prog 92 [.p (.str s)] [] fun y H'=> ∃a,(∃n:Nat,PartR s n/\a= .int .i64 (n:Nat))/\y= .p a/\H'= []:=by
 by_cases hq:0<s.length/\(nth s 0).toNat=34
 ·obtain ⟨hl,h34⟩:=hq;refine Zd [] Tryz.func92 rfl L7 ?_;simp (disch:=omega) only [Tryz.f92,go_sem,seval];refine gT ?_ ?_<;>intro h1<;>simp (disch:=omega) only [Sh.out h1,go_sem,seval]
  ·refine cD ?_ ?_<;>intro h2<;>simp (disch:=omega) only [Sh.out h2,go_sem,seval]
   ·refine dT (GW s hs) ?_;rintro _ ⟨n,hn,rfl⟩;simp (disch:=omega) only [go_sem,seval];refine Me (dS (s.take n) (by rw [List.length_take];omega)) ?_;rintro _ _ ⟨t,e,rfl,rfl⟩;simp (disch:=omega) only [go_sem,seval];refine cD ?_ ?_<;>intro h3<;>simp (disch:=omega) only [Sh.out h3,go_sem,seval]
    ·exact ⟨_,[],wk,_,⟨0,⟨Za,fun h=>absurd h34 h⟩,rfl⟩,rfl,rfl⟩
    ·exact ⟨_,[],wk,_,⟨n,⟨hn,fun h=>absurd h34 h⟩,rfl⟩,rfl,rfl⟩
   ·omega
  ·simp at h1;subst h1;simp at hl
 ·refine (O4 s hs hq).mono ?_;rintro y H' ⟨rfl,rfl⟩;exact ⟨_,⟨YF s,⟨GO s,fun _=>rfl⟩,rfl⟩,rfl,rfl⟩
theorem Ho (s:List UInt8) (hs:s.length<=1048576):ACalls Tryz.prog 45 [.p (.str s)] [] fun y H'=> ∃o,Wds s o/\y=Wi o/\H'= []:=by
 refine Zd [7,12] Tryz.func45 rfl aJ ?_;simp (disch:=omega) only [Tryz.f45,go_sem,seval]
 refine Zz [7,12] [] (fun q:List UInt8×List (List UInt8)=> [(0,.p (.str q.1)),(4,.sl 0 0 q.2.length q.2.length)]) (fun q=> [.elems 1 (q.2.map Y0)])
  (fun q=>q.2.length+q.1.length<=s.length/\ ∀z,Wds q.1 z->Wds s (z.map fun r=>q.2++r)) (fun q=>q.1.length) (s,[]) Zb (Weak.ofNil 4 1 rfl Zb (Weak.mk ?_)) ?_
 ·simp (disch:=omega) only [List.map_nil,List.length_nil,go_sem,seval]
 ·rintro ⟨r,o⟩ ⟨h3,h5⟩;simp only at h3 h5;simp (disch:=omega) only [go_sem,seval]
  have hrl:r= []\/0<r.length:=by cases r<;>simp
  rcases hrl with he | hrl
  ·subst he;refine cD ?_ ?_<;>intro h6<;>simp (disch:=omega) only [Sh.out h6,go_sem,seval]
   ·simp at h6
   ·refine Zs (Weak.fz (o:=0) (by rfl)) ?_;refine Ze [] _ _ _ _ ?_;simp (disch:=omega) only [List.map_cons,List.map_nil,List.set_cons_succ,List.set_cons_zero,go_sem,seval];exact ⟨Wi (some o),[],Weak.mk (by simp (disch:=omega) only [Wi,go_sem,seval]),_,by simpa using h5 _ .nil,rfl,rfl⟩
  ·refine cD ?_ ?_<;>intro h6<;>simp (disch:=omega) only [Sh.out h6,go_sem,seval]
   ·have hne:r≠ []:=List.length_pos_iff.1 hrl;refine dT (I8 r Za) ?_;rintro _ ⟨k,hp,rfl⟩;have hkl:=hp.1;simp (disch:=omega) only [go_sem,seval];refine cD ?_ ?_<;>intro h7<;>simp (disch:=omega) only [Sh.out h7,go_sem,seval]
    ·have h7':k=0:=Za
     subst h7';exact ⟨Wi none,[],Weak.mk (by simp (disch:=omega) only [Wi,go_sem,seval]),_,h5 _ (.bad r hne hp),rfl,rfl⟩
    ·have h7':0<k:=Za
     refine cD ?_ ?_<;>intro h8<;>simp (disch:=omega) only [Sh.out h8,go_sem,seval]
     ·have h8':k=r.length:=Za
      subst h8';refine X0 [] (fun _:Unit=> [(2,.sl 0 0 (o++ [r]).length (o++ [r]).length),(3,.p (.int .i64 0))]) (fun _=> [.elems 1 ((o++ [r]).map Y0)]) (fun _=>True) ?_ ?_
      ·simp (disch:=omega) only [go_sem,seval];exact ⟨(),Weak.mk (by simp (disch:=omega) only [List.map_append,List.map_cons,List.map_nil,List.length_append,List.length_cons,List.length_nil,go_sem,seval])⟩
      ·intro _ _;refine Zs (Weak.fz (o:=0) (by rfl)) ?_;refine Ze [] _ _ _ _ ?_;simp (disch:=omega) only [List.map_cons,List.map_nil,List.set_cons_succ,List.set_cons_zero,go_sem,seval];exact ⟨Wi (some (o++ [r])),[],Weak.mk (by simp (disch:=omega) only [Wi,List.map_append,List.map_cons,List.map_nil,go_sem,seval]),_,h5 _ (.whole r hne hp),rfl,rfl⟩
     ·have h8': ¬k=r.length:=Za
      have hk:k<r.length:=Za
      refine gF ?_ ?_<;>intro h9<;>simp (disch:=omega) only [Sh.out h9,go_sem,seval]
      ·exact ⟨Wi none,[],Weak.mk (by simp (disch:=omega) only [Wi,go_sem,seval]),_,h5 _ (.bad2 r k hp h7' hk (.inl Za)),rfl,rfl⟩
      ·refine cD ?_ ?_<;>intro h10<;>simp (disch:=omega) only [Sh.out h10,go_sem,seval]
       ·exact ⟨Wi none,[],Weak.mk (by simp (disch:=omega) only [Wi,go_sem,seval]),_,h5 _ (.bad2 r k hp h7' hk (.inr Za)),rfl,rfl⟩
       ·refine ⟨(r.drop (k+1),o++ [r.take k]),⟨?_,?_⟩,?_,Weak.mk ?_⟩
        ·simp only [List.length_append,List.length_drop,List.length_cons,List.length_nil];omega
        ·intro z hz;have:=h5 _ (.cons r k z hp h7' hk Za Za hz)
         cases z<;>simpa using this
        ·simp only [List.length_drop];omega
        ·simp (disch:=omega) only [List.map_append,List.map_cons,List.map_nil,List.length_append,List.length_cons,List.length_nil,go_sem,seval];rw [List.take_length]
   ·exact absurd (List.length_pos_iff.1 hrl) (by simpa using h6)
theorem mX {g:FuncId} {args:List V} {s:List UInt8} {H:List AM.Obj} {K:V->List AM.Obj->Prop} (h:ACalls Tryz.prog g args [] fun y H'=> ∃o,Wds s o/\y=Wi o/\H'= []) (k: ∀o,Wds s o->K (Wi o) H) (ha:Zx 0 args=true:=by rfl):ACalls Tryz.prog g args H K :=
 (h.behind ha H).mono fun x H' hq=>by
  obtain ⟨y,H1,⟨o,hr,rfl,rfl⟩,rfl,rfl⟩:=hq
  cases o with
  | none=>simpa [Bf,Wv,Wi] using k none hr
  | some l=>simpa [Bf,Wv,Wi] using k (some l) hr
end Go.Proofs.YtmbelkfkhclnkaaGreatDoor.K
