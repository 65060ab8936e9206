/- Declarations that the closing texts need, part 15: joined by tools/slim.py. -/
import Derived.Test.YtmbelkfkhclnkaaGreatDoorZM14
import Derived.Lib.AtoiAllCases
import Derived.Lib.ItoaNum
import Derived.Lib.Join
set_option linter.unusedVariables false
set_option linter.unusedSimpArgs false
namespace Go.Proofs.YtmbelkfkhclnkaaGreatDoor.K
open Go Go.AM Go.Proofs
set_option maxRecDepth 8000
set_option maxHeartbeats 8000000
def Zz (xs:List (List UInt8)) (sep:List UInt8):List UInt8:=Lib.join xs sep
def Bf : List UInt8->List UInt8->List (List UInt8)
 | acc,[]=> [acc]
 | acc,b::l=>if b=32 then acc::Bf [] l else Bf (acc++ [b]) l
def Xy (s:List UInt8):List (List UInt8):=Bf [] s
theorem IT : W8 []=0:=rfl
theorem WQ (b:UInt8) (l:List UInt8):W8 (b::l)=if b=32 then 0 else W8 l+1:=by
 have h:=Uj 32 l
 have hi:Lib.indexByte (b::l) 32=if b=32 then 0 else if Lib.indexByte l 32= -1 then-1 else Lib.indexByte l 32+1:=by rw [Lib.indexByte];simp
 unfold W8;rw [hi]
 by_cases e:b=32
 ·rw [if_pos e,if_pos e];rfl
 ·rw [if_neg e,if_neg e]
  by_cases e2:Lib.indexByte l 32= -1
  ·rw [if_pos e2,e2];simp
  ·rw [if_neg e2,if_neg Za,if_neg Za];omega
theorem DC : ∀(s acc:List UInt8),Bf acc s=if W8 s=s.length then [acc++s] else (acc++s.take (W8 s))::Xy (s.drop (W8 s+1))
 | [],acc=>by simp [Bf,IT]
 | b::l,acc=>by
  have h:=Qr l;rw [Bf,WQ]
  by_cases e:b=32
  ·rw [if_pos e,if_pos e,if_neg Zb];simp [Xy]
  ·rw [if_neg e,if_neg e,DC l]
   by_cases e2:W8 l=l.length
   ·rw [if_pos e2,if_pos (by simp [e2])];simp
   ·rw [if_neg e2,if_neg (by simpa using e2)];simp
theorem X8 (s:List UInt8):Xy s=if W8 s=s.length then [s] else s.take (W8 s)::Xy (s.drop (W8 s+1)):=by
 rw [Xy,DC];simp
theorem Gs : ∀(s:List UInt8),W8 s<s.length->nth s (W8 s)=32
 | [],h=>by simp at h
 | b::l,h=>by
  rw [WQ] at h ⊢
  by_cases e:b=32
  ·rw [if_pos e];subst e;rfl
  ·rw [if_neg e] at h ⊢;have:=Gs l (by simpa using h);simpa [nth] using this
theorem B3 : ∀(w r:List UInt8),32 ∉ w->W8 (w++32::r)=w.length
 | [],r,_=>by rw [List.nil_append,WQ,if_pos rfl];rfl
 | b::l,r,h=>by
  rw [List.cons_append,WQ,if_neg (fun e=>h (by simp [e])),B3 l r fun e=>h (by simp [e])];rfl
theorem UR : ∀(w:List UInt8),32 ∉ w->W8 w=w.length
 | [],_=>rfl
 | b::l,h=>by rw [WQ,if_neg (fun e=>h (by simp [e])),UR l fun e=>h (by simp [e])];rfl
theorem Bg : ∀(ws:List (List UInt8)),ws≠ []->(∀w∈ws,32 ∉ w)->Xy (Zz ws [32])=ws
 | [],h,_=>absurd rfl h
 | [w],_,h=>by
  have e:Zz [w] [32]=w:=by rw [Zz,Lib.join_cons];simp [Lib.joinTail]
  rw [e,X8,UR w (h w Zb),if_pos rfl]
 | w::v::r,_,h=>by
  have e:Zz (w::v::r) [32]=w++32::Zz (v::r) [32]:=by
   rw [Zz,Zz,Lib.join_cons,Lib.join_cons];simp [Lib.joinTail]
  have ih:=Bg (v::r) Zb fun u hu=>h u (by simp [hu]);rw [e,X8,B3 w _ (h w Zb),if_neg Zb,List.take_left,show w.length+1=(w++ [32]).length by simp,show w++32::Zz (v::r) [32]=(w++ [32])++Zz (v::r) [32] by simp,List.drop_left,ih]
theorem FI {w:List UInt8} (h:Z5 w=true):32 ∉ w:=fun e=>by
 simp only [Z5,Bool.and_eq_true,List.all_eq_true] at h;have:=h.2 32 e;simp [Vn] at this
theorem UX {w:List UInt8} (h:Z5 w=true):w≠ []:=by
 simp only [Z5,Bool.and_eq_true,decide_eq_true_eq] at h;exact h.1
theorem CL {w:List UInt8} (h:Z5 w=true):(nth w 0).toNat≠34:=by
 simp only [Z5,Bool.and_eq_true,List.all_eq_true,decide_eq_true_eq] at h;have:=h.2 _ (Zq (List.length_pos_iff.2 h.1));simp only [Vn,Bool.and_eq_true,decide_eq_true_eq] at this;exact this.2
def PartR (s:List UInt8) (n:Nat):Prop:=n<=s.length/\((nth s 0).toNat≠34->n=YK s)
inductive Wds : List UInt8->Option (List (List UInt8))->Prop
 | nil:Wds [] (some [])
 | bad (s:List UInt8) (h:s≠ []) (hp:PartR s 0):Wds s none
 | whole (s:List UInt8) (h:s≠ []) (hp:PartR s s.length):Wds s (some [s])
 | bad2 (s:List UInt8) (n:Nat) (hp:PartR s n) (h:0<n) (h2:n<s.length) (h3:(nth s n).toNat≠32\/n+1=s.length):Wds s none
 | cons (s:List UInt8) (n:Nat) (o:Option (List (List UInt8))) (hp:PartR s n) (h:0<n) (h2:n<s.length) (h3:(nth s n).toNat=32) (h4:n+1<s.length) (ht:Wds (s.drop (n+1)) o):Wds s (o.map fun r=>s.take n::r)
theorem JG {s:List UInt8} {n:Nat} (h:0<n):nth (s.take n) 0=nth s 0:=by
 cases s with
 | nil=>simp
 | cons b l=>cases n with
  | zero=>omega
  | succ n=>rfl
theorem US {s:List UInt8} {n:Nat} (hp:PartR s n) (hq:(nth s 0).toNat≠34) (hn:0<n):n=W8 s/\Z5 (s.take n)=true:=by
 have h:=hp.2 hq;unfold YK at h
 split at h
 ·subst h;exact ⟨rfl,by assumption⟩
 ·omega
theorem Dd {s:List UInt8} (h: ∀w∈Xy s,Z5 w=true):(nth s 0).toNat≠34:=by
 rw [X8] at h;have hl:=Qr s
 split at h
 ·exact CL (h s Zb)
 ·have h1:=h _ (List.mem_cons_self ..);have hw:=CL h1
  have hn:0<W8 s:=by
   rcases Nat.eq_zero_or_pos (W8 s) with e | e
   ·rw [e] at h1;exact absurd rfl (UX h1)
   ·exact e
  rwa [JG hn] at hw
theorem gJ {s:List UInt8} {o:Option (List (List UInt8))} (h:Wds s o): ∀ws,o=some ws->s≠ []->(∀w∈ws,Z5 w=true)->Xy s=ws:=by
 induction h with
 | nil=>intro ws _ h;exact absurd rfl h
 | bad=>intro ws h;cases h
 | bad2=>intro ws h;cases h
 | whole s h hp =>
  intro ws e _ hw
  cases e
  have h1:=hw s Zb;rw [X8,if_pos (UR s (FI h1))]
 | cons s n o hp h h2 h3 h4 ht ih =>
  intro ws e _ hw
  cases o with
  | none=>cases e
  | some r =>
   cases e
   have h1:=hw _ (List.mem_cons_self ..);have hq:=CL h1;rw [JG h] at hq;obtain ⟨rfl,_⟩:=US hp hq h;rw [X8,if_neg Za,ih r rfl (fun e=>by have:=congrArg List.length e;simp at this;omega) fun w hw2=>hw w (by simp [hw2])]
theorem gK {s:List UInt8} {o:Option (List (List UInt8))} (h:Wds s o):(∀w∈Xy s,Z5 w=true)->o=some (Xy s):=by
 induction h with
 | nil=>intro h;exact absurd rfl (UX (h [] (by simp [Xy,Bf])))
 | bad s h hp =>
  intro hw;have e:=hp.2 (Dd hw);exfalso;unfold YK at e
  split at e
  ·rename_i h1;rw [<- e] at h1;exact absurd rfl (UX h1)
  ·rename_i h1;refine h1 (hw _ ?_);rw [X8]
   split
   ·rename_i h2;rw [h2];simp
   ·exact List.mem_cons_self ..
 | whole s h hp =>
  intro hw;obtain ⟨e,h1⟩:=US hp (Dd hw) (List.length_pos_iff.2 h);rw [X8,if_pos e.symm]
 | bad2 s n hp h h2 h3 =>
  intro hw;obtain ⟨rfl,h1⟩:=US hp (Dd hw) h;have hs:=Gs s h2;rcases h3 with h3 | h3
  ·rw [hs] at h3;exact absurd rfl h3
  ·rw [X8,if_neg Za] at hw;have:=hw _ (List.mem_cons_of_mem _ (show []∈Xy (s.drop (W8 s+1)) by rw [List.drop_of_length_le Za];simp [Xy,Bf]));exact absurd rfl (UX this)
 | cons s n o hp h h2 h3 h4 ht ih =>
  intro hw;obtain ⟨rfl,h1⟩:=US hp (Dd hw) h;rw [X8,if_neg Za] at hw ⊢;rw [ih fun w hw2=>hw w (List.mem_cons_of_mem _ hw2)];rfl
theorem L6 {s:List UInt8} {o:Option (List (List UInt8))} (h:Wds s o): ∀ws,o=some ws->ws.length<=s.length/\ ∀w∈ws,w≠ []/\w.length<=s.length:=by
 induction h with
 | nil=>intro ws e;cases e;simp
 | bad=>intro ws h;cases h
 | bad2=>intro ws h;cases h
 | whole s h hp =>
  intro ws e
  cases e
  have:=List.length_pos_iff.2 h;refine ⟨by simp;omega,fun w hw=> ?_⟩;simp at hw;subst hw;exact ⟨h,Nat.le_refl _⟩
 | cons s n o hp h h2 h3 h4 ht ih =>
  intro ws e
  cases o with
  | none=>cases e
  | some r =>
   cases e
   obtain ⟨i1,i2⟩:=ih r rfl;rw [List.length_drop] at i1 i2;refine ⟨by simp only [List.length_cons];omega,fun w hw=> ?_⟩;rcases List.mem_cons.1 hw with rfl | hw
   ·refine ⟨fun e=> ?_,by rw [List.length_take];omega⟩
    have:(s.take n).length=0:=by rw [e];rfl
    rw [List.length_take] at this;omega
   ·have:=i2 w hw;exact ⟨this.1,Za⟩
def X0 (b:UInt8):Bool:=decide (48<=(b.toNat:Int))&&decide ((b.toNat:Int)<=57)
def XU (a:Nat) (l:List UInt8):Nat:=l.foldl (fun a b=>a*10+(b.toNat-48)) a
def Xj (s:List UInt8):Int×Int :=
 if Zu s= []\/((nth (Zu s) 0).toNat=48/\s≠ [48]) then (0,3)
 else if (Zu s).all X0=false then (0,3)
 else if s.take 1= [45] then (if XU 0 (Zu s)<=9223372036854775808 then (-(XU 0 (Zu s):Int),0) else (0,4))
 else if XU 0 (Zu s)<9223372036854775808 then ((XU 0 (Zu s):Int),0) else (0,4)
theorem C5 : ∀(l:List UInt8) (a:Nat),a<=XU a l
 | [],a=>Nat.le_refl _
 | b::l,a=>by
  have:=C5 l (a*10+(b.toNat-48));simp only [XU,List.foldl_cons] at this ⊢;omega
theorem Cg : ∀(l:List UInt8) (a:Nat),a<18446744073709551616->l.all X0=true->Lib.parseUint10 a l=if XU a l<18446744073709551616 then .ok (XU a l) else .range
 | [],a,ha,_=>by rw [Lib.parseUint10];exact (if_pos ha).symm
 | b::l,a,ha,h=>by
  have hd:=h;simp only [List.all_cons,Bool.and_eq_true,X0,decide_eq_true_eq] at hd
  have h2:l.all X0=true:=by simpa [X0] using hd.2
  have hg:=C5 l (a*10+(b.toNat-48));have he:XU a (b::l)=XU (a*10+(b.toNat-48)) l:=rfl;rw [Lib.parseUint10,if_pos Za,he]
  by_cases h3:1844674407370955162<=a
  ·rw [if_pos h3,if_neg Za]
  ·rw [if_neg h3]
   by_cases h4:18446744073709551616<=a*10+(b.toNat-48)
   ·rw [if_pos h4,if_neg Za]
   ·rw [if_neg h4,Cg l _ Za h2]
theorem Fy {s:List UInt8} (h0:Zu s≠ []) (h:(Zu s).all X0=true) :
  Lib.atoiAll s=if s.take 1= [45] then (if XU 0 (Zu s)<=9223372036854775808 then .ok (-(XU 0 (Zu s):Int)) else .range)
   else if XU 0 (Zu s)<9223372036854775808 then .ok (XU 0 (Zu s):Int) else .range:=by
 cases s with
 | nil=>exact absurd rfl h0
 | cons b l =>
  by_cases hb:b=45
  ·subst hb
   have e:Zu (45::l)=l:=by simp [Zu]
   rw [e] at h h0;rw [e,if_pos Zb,Lib.atoiAll];simp only [show (45:UInt8).toNat=45 from rfl,or_true,if_true,true_and,not_true,false_and,if_false];rw [Lib.parseMag,if_neg h0,Cg l 0 Za h]
   by_cases h1:XU 0 l<18446744073709551616
   ·rw [if_pos h1];simp only
    by_cases h2:9223372036854775808<XU 0 l
    ·rw [if_pos h2,if_neg Za]
    ·rw [if_neg h2,if_pos Za]
   ·rw [if_neg h1,if_neg Za]
  ·have e:Zu (b::l)=b::l:=by simp [Zu,hb]
   rw [e] at h;have hd:=h;simp only [List.all_cons,Bool.and_eq_true,X0,decide_eq_true_eq] at hd
   have h45:b.toNat≠45:=Za
   have h43:b.toNat≠43:=Za
   rw [e,if_neg (by simpa using hb),Lib.atoiAll];simp only [h43,h45,or_false,if_false,false_and,not_false_iff,true_and];rw [Lib.parseMag,if_neg Zb,Cg (b::l) 0 Za h]
   by_cases h1:XU 0 (b::l)<18446744073709551616
   ·rw [if_pos h1];simp only
    by_cases h2:9223372036854775808<=XU 0 (b::l)
    ·rw [if_pos h2,if_neg Za]
    ·rw [if_neg h2,if_pos Za]
   ·rw [if_neg h1,if_neg Za]
theorem GQ {s:List UInt8} (h0:Zu s≠ []) (h:(Zu s).all X0=true) (h1: ¬((nth (Zu s) 0).toNat=48/\s≠ [48])) :
  (∃n,Lib.atoiAll s= .ok n/\Xj s=(n,0))\/(Lib.atoiAll s= .range/\Xj s=(0,4)):=by
 have ha:=Fy h0 h
 have hn:Xj s=if s.take 1= [45] then (if XU 0 (Zu s)<=9223372036854775808 then (-(XU 0 (Zu s):Int),0) else (0,4)) else if XU 0 (Zu s)<9223372036854775808 then ((XU 0 (Zu s):Int),0) else (0,4):=by
  unfold Xj;rw [if_neg (by rintro (e | e);exact h0 e;exact h1 e),if_neg (by simp [h])]
 by_cases a:s.take 1= [45]
 ·rw [if_pos a] at ha hn
  by_cases b:XU 0 (Zu s)<=9223372036854775808
  ·rw [if_pos b] at ha hn;exact .inl ⟨_,ha,hn⟩
  ·rw [if_neg b] at ha hn;exact .inr ⟨ha,hn⟩
 ·rw [if_neg a] at ha hn
  by_cases b:XU 0 (Zu s)<9223372036854775808
  ·rw [if_pos b] at ha hn;exact .inl ⟨_,ha,hn⟩
  ·rw [if_neg b] at ha hn;exact .inr ⟨ha,hn⟩
theorem Iy {b:UInt8} (h:X0 b=true):Vn b=true:=by
 simp only [X0,Vn,Bool.and_eq_true,decide_eq_true_eq] at *
 omega
theorem YC {s:List UInt8} (h:(Xj s).2=0):Z5 s=true:=by
 unfold Xj at h
 split at h
 ·cases h
 ·rename_i h1
  split at h
  ·cases h
  ·rename_i h2
   have h2:(Zu s).all X0=true:=by simpa using h2
   have h3:(Zu s).all Vn=true:=by
    rw [List.all_eq_true] at h2 ⊢;exact fun b hb=>Iy (h2 b hb)
   have h0:Zu s≠ []:=fun e=>h1 (.inl e);have hs:s≠ []:=fun e=>h0 (by rw [e];rfl);rw [Z5,decide_eq_true hs,Bool.true_and];unfold Zu at h3
   split at h3
   ·rename_i h4
    cases s with
    | nil=>exact absurd rfl hs
    | cons b l =>
     simp at h4;subst h4;rw [List.all_cons,show Vn 45=true by decide];simpa using h3
   ·exact h3
theorem C6 (n:Nat):dec n=Lib.decDigits n:=by
 induction n using Nat.strongRecOn with
 | _ n ih =>
  rw [dec,Lib.decDigits]
  split
  ·rfl
  ·rw [ih (n / 10) Za]
theorem FM (n:Int):Lib.itoa n=X7 n:=by
 rw [Lib.itoa,X7]
 split
 ·rw [C6]
 ·rw [C6,show n.toNat=n.natAbs by omega]
theorem HA {k:Nat} (h:k<10):(UInt8.ofNat (48+k)).toNat=48+k:=by
 rw [UInt8.toNat_ofNat'];omega
theorem Iv (n:Nat):(dec n).all X0=true/\dec n≠ []/\(∀a,XU a (dec n)=a*10^(dec n).length+n)/\(n≠0->(nth (dec n) 0).toNat≠48):=by
 induction n using Nat.strongRecOn with
 | _ n ih =>
  rw [dec]
  split
  ·rename_i h;have:=HA h;refine ⟨by simp [X0,this];omega,Zb,fun a=>by simp only [XU,List.foldl_cons,List.foldl_nil,this,List.length_cons,List.length_nil,Nat.zero_add,Nat.pow_one];omega,fun h2=> ?_⟩
   show (UInt8.ofNat (48+n)).toNat≠48
   omega
  ·rename_i h;obtain ⟨h1,h2,h3,h4⟩:=ih (n / 10) Za;have hd:=HA (show n%10<10 by omega);refine ⟨by rw [List.all_append,h1];simp [X0,hd];omega,Zb,fun a=> ?_,fun _=> ?_⟩
   ·have h3:=h3 a;unfold XU at h3 ⊢;rw [List.foldl_append,h3];simp only [List.foldl_cons,List.foldl_nil,hd,List.length_append,List.length_cons,List.length_nil,Nat.pow_succ,Nat.zero_add];rw [Nat.add_mul,Nat.mul_assoc];omega
   ·have:=h4 Za
    cases hc:dec (n / 10) with
    | nil=>exact absurd hc h2
    | cons b l=>rw [hc] at this;exact this
theorem FN : dec 0= [48]:=by rw [dec,dif_pos Za];rfl
theorem I9 {n:Int} (h:E9 n):Xj (X7 n)=(n,0):=by
 obtain ⟨h1,h2,h3,h4⟩:=Iv n.natAbs;have h3:=h3 0;rw [Nat.zero_mul,Nat.zero_add] at h3;unfold X7
 split
 ·have e:Zu (45::dec n.natAbs)=dec n.natAbs:=by simp [Zu]
  rw [Xj,e,if_neg (by rintro (e | e);exact h2 e;exact h4 Za e.1),if_neg (by simp [h1]),if_pos Zb,h3,if_pos Za];exact Prod.ext (by simp only;omega) rfl
 ·have hb: ∀b∈dec n.natAbs,b≠45:=fun b hb e=>by
   rw [List.all_eq_true] at h1;have:=h1 b hb;rw [e] at this;cases this
  have h5: ¬(dec n.natAbs).take 1= [45]:=fun e=>by
   cases hc:dec n.natAbs with
   | nil=>exact h2 hc
   | cons b l=>rw [hc] at e;simp at e;exact hb b (by rw [hc];simp) e
  have e:Zu (dec n.natAbs)=dec n.natAbs:=by rw [Zu,if_neg h5]
  rw [Xj,e,if_neg ?_,if_neg (by simp [h1]),if_neg h5,h3,if_pos Za]
  ·exact Prod.ext (by simp only;omega) rfl
  ·rintro (e | e)
   ·exact h2 e
   ·by_cases h0:n.natAbs=0
    ·exact e.2 (by rw [h0,FN])
    ·exact h4 h0 e.1
set_option maxRecDepth 60000
theorem YA (x:List UInt8) (r:List (List UInt8)) (sep:List UInt8):Zz (x::r) sep=x++Lib.joinTail sep r:=Lib.join_cons _ _ _
theorem VH {sep:List UInt8} {B:Nat} : ∀(r:List (List UInt8)),(∀s∈r,s.length<=B)->(Lib.joinTail sep r).length<=r.length*(B+sep.length)
 | [],_=>by simp [Lib.joinTail]
 | x::r,h=>by
  have ih:=VH (sep:=sep) r fun s hs=>h s (by simp [hs]);have h1:=h x Zb
  simp only [Lib.joinTail,List.map_cons,List.flatten_cons,List.length_append,List.length_cons,Nat.add_mul,Nat.one_mul] at *
  omega
theorem Jt {sep:List UInt8} {B:Nat} {xs:List (List UInt8)} (h: ∀s∈xs,s.length<=B):(Zz xs sep).length<=xs.length*(B+sep.length):=by
 cases xs with
 | nil=>simp [Zz,Lib.join_nil]
 | cons x r =>
  have ih:=VH (sep:=sep) r fun s hs=>h s (by simp [hs]);have h1:=h x Zb;rw [YA]
  simp only [List.length_append,List.length_cons,Nat.add_mul,Nat.one_mul] at *
  omega
def decS (n:Int):List UInt8:=X7 n
def okD (n:Int):Prop:=E9 n
theorem YY {n:Int} (h:okD n):(decS n).length<=20:=ZS n h
def eJ (l:List Bool):List UInt8:=if l= [] then [46] else l.map fun b=>if b=true then 121 else 110
def tC (l:List Bool):Prop:=l.length<=4096
def Re (b:Bool):UInt8:=if b=true then 121 else 110
theorem gD {g:FuncId} {args:List V} {R:PV->Prop} {H:List AM.Obj} {K:V->List AM.Obj->Prop} (h:ACalls Tryz.prog g args [] fun y H'=> ∃a,R a/\y= .p a/\H'= []) (k: ∀a,R a->K (.p a) H) (ha:Zw 0 args=true:=by rfl):ACalls Tryz.prog g args H K :=
 (h.behind ha H).mono fun x H' hq=>by
  obtain ⟨y,H1,⟨a,hr,rfl,rfl⟩,rfl,rfl⟩:=hq;simpa [Bc,Wl] using k a hr
theorem MM {g:FuncId} {args:List V} {R:PV->PV->Prop} {H:List AM.Obj} {K:V->List AM.Obj->Prop} (h:ACalls Tryz.prog g args [] fun y H'=> ∃a b,R a b/\y= .tup [.p a,.p b]/\H'= []) (k: ∀a b,R a b->K (.tup [.p a,.p b]) H) (ha:Zw 0 args=true:=by rfl):ACalls Tryz.prog g args H K :=
 (h.behind ha H).mono fun x H' hq=>by
  obtain ⟨y,H1,⟨a,b,hr,rfl,rfl⟩,rfl,rfl⟩:=hq;simpa [Bc,Wl] using k a b hr
theorem Hf (s:List UInt8) (hs:s.length<=1048576):ACalls Tryz.prog 124 [.p (.str s)] [] fun y H'=> ∃a,(∃n:Nat,n<=s.length/\a= .int .i64 (n:Nat))/\y= .p a/\H'= []:=by
 refine Ze [] Tryz.func124 rfl N5 ?_;simp (disch:=omega) only [Tryz.f124,go_sem,seval];refine Zn [0] (fun k:Nat=> [(3,.p (.int .i64 k))]) (fun _=> []) (fun k=>k<=s.length+1) (fun k=>s.length+1-k) 1 Zb (Weak.mk ?_) ?_
 ·simp (disch:=omega) only [go_sem,seval]
 ·intro k hk;simp (disch:=omega) only [go_sem,seval];refine cD ?_ ?_<;>intro h1<;>simp (disch:=omega) only [Sh.out h1,go_sem,seval]
  ·have hk2:k<s.length:=Za
   refine cD ?_ ?_<;>intro h2<;>simp (disch:=omega) only [Sh.out h2,go_sem,seval]
   ·exact ⟨k+2,Za,Za,wk⟩
   ·refine cD ?_ ?_<;>intro h3<;>simp (disch:=omega) only [Sh.out h3,go_sem,seval]
    ·exact ⟨_,[],wk,_,⟨k+1,Za,rfl⟩,rfl,rfl⟩
    ·exact ⟨k+1,Za,Za,wk⟩
  ·exact ⟨_,[],wk,_,⟨0,Za,rfl⟩,rfl,rfl⟩
def lV (a b:PV):Prop:= ∃x n:Int,(0<=x/\x<256)/\(0<=n/\n<=3)/\a= .int .u8 x/\b= .int .i64 n
theorem tI (z:Int):0<=IntKind.u8.wrap z/\IntKind.u8.wrap z<256:=by
 simp only [IntKind.wrap,IntKind.signed,IntKind.bits];simp;omega
theorem Ef (s:List UInt8) (hs:s.length<=1048576):ACalls Tryz.prog 169 [.p (.str s)] [] fun y H'=> ∃a b,lV a b/\y= .tup [.p a,.p b]/\H'= []:=by
 refine Ze [] Tryz.func169 rfl On ?_;simp (disch:=omega) only [Tryz.f169,go_sem,seval]
 have hsl:s= []\/0<s.length:=by cases s<;>simp
 rcases hsl with he | hsl
 ·subst he;refine cD ?_ ?_<;>intro h1<;>simp (disch:=omega) only [Sh.out h1,go_sem,seval]
  ·exact ⟨_,[],wk,_,_,⟨0,0,Za,Za,rfl,rfl⟩,rfl,rfl⟩
  ·simp at h1
 ·have hb:=Bn (nth s 0);refine cD ?_ ?_<;>intro h1<;>simp (disch:=omega) only [Sh.out h1,go_sem,seval]
  ·exact absurd h1 (List.length_pos_iff.1 hsl)
  ·refine cD ?_ ?_<;>intro h2<;>simp (disch:=omega) only [Sh.out h2,go_sem,seval]
   ·exact ⟨_,[],wk,_,_,⟨((nth s 0).toNat:Nat),1,Za,Za,rfl,rfl⟩,rfl,rfl⟩
   ·refine cD ?_ ?_<;>intro h3<;>simp (disch:=omega) only [Sh.out h3,go_sem,seval]
    ·exact ⟨_,[],wk,_,_,⟨((nth s 0).toNat:Nat),1,Za,Za,rfl,rfl⟩,rfl,rfl⟩
    ·refine cD ?_ ?_<;>intro h4<;>simp (disch:=omega) only [Sh.out h4,go_sem,seval]
     ·exact ⟨_,[],wk,_,_,⟨10,1,Za,Za,rfl,rfl⟩,rfl,rfl⟩
     ·refine cD ?_ ?_<;>intro h5<;>simp (disch:=omega) only [Sh.out h5,go_sem,seval]
      ·refine cD ?_ ?_<;>intro h6<;>simp (disch:=omega) only [Sh.out h6,go_sem,seval]
       ·exact ⟨_,[],wk,_,_,⟨0,0,Za,Za,rfl,rfl⟩,rfl,rfl⟩
       ·refine XC 6 mixed Zg Zg ?_;simp (disch:=omega) only [go_sem,seval];refine ZK (Wk _ _) ?_;simp (disch:=omega) only [go_sem,seval];refine ZK (Wk _ _) ?_;simp (disch:=omega) only [go_sem,seval];generalize Lib.indexByte [48,49,50,51,52,53,54,55,56,57,97,98,99,100,101,102] (nth s 1).toNat.toUInt8=hi;generalize Lib.indexByte [48,49,50,51,52,53,54,55,56,57,97,98,99,100,101,102] (nth s 2).toNat.toUInt8=lo;generalize hz:IntKind.u8.wrap (IntKind.i64.wrap _)=z
        have hw:0<=z/\z<256:=by rw [<- hz];exact tI _
        clear hz;refine gF ?_ ?_<;>intro g1<;>simp (disch:=omega) only [Sh.out g1,go_sem,seval]
        ·exact ⟨_,[],wk,_,_,⟨0,0,Za,Za,rfl,rfl⟩,rfl,rfl⟩
        ·refine gF ?_ ?_<;>intro g2<;>simp (disch:=omega) only [Sh.out g2,go_sem,seval]
         ·exact ⟨_,[],wk,_,_,⟨0,0,Za,Za,rfl,rfl⟩,rfl,rfl⟩
         ·refine gF ?_ ?_<;>intro g3<;>simp (disch:=omega) only [Sh.out g3,go_sem,seval]
          ·exact ⟨_,[],wk,_,_,⟨0,0,Za,Za,rfl,rfl⟩,rfl,rfl⟩
          ·refine gT ?_ ?_<;>intro g4<;>simp (disch:=omega) only [Sh.out g4,go_sem,seval]
           ·refine cD ?_ ?_<;>intro g5<;>simp (disch:=omega) only [Sh.out g5,go_sem,seval]
            ·exact ⟨_,[],wk,_,_,⟨0,0,Za,Za,rfl,rfl⟩,rfl,rfl⟩
            ·exact ⟨_,[],wk,_,_,⟨z,3,hw,Za,rfl,rfl⟩,rfl,rfl⟩
           ·exact ⟨_,[],wk,_,_,⟨z,3,hw,Za,rfl,rfl⟩,rfl,rfl⟩
      ·exact ⟨_,[],wk,_,_,⟨0,0,Za,Za,rfl,rfl⟩,rfl,rfl⟩
def rG (a b:PV):Prop:= ∃(t:List UInt8) (e:Int),a= .str t/\b= .int .i64 e
def bU (b:UInt8):PV:= .int .u8 (b.toNat:Nat)
theorem K8 : ∀l:List UInt8,ZX (l.map bU)=some l
 | []=>rfl
 | b::l=>by rw [List.map_cons,bU,Kg,K8 l];simp
theorem gC (s:List UInt8) (hs:s.length<=1048576):ACalls Tryz.prog 125 [.p (.str s)] [] fun y H'=> ∃a b,rG a b/\y= .tup [.p a,.p b]/\H'= []:=by
 refine Ze [4,18] Tryz.func125 rfl N6 ?_;simp (disch:=omega) only [Tryz.f125,go_sem,seval];have bad:rG (.str []) (.int .i64 3):=⟨_,_,rfl,rfl⟩;refine gF ?_ ?_<;>intro h1<;>simp (disch:=omega) only [Sh.out h1,go_sem,seval]
 ·exact ⟨_,[],wk,_,_,bad,rfl,rfl⟩
 ·refine gF ?_ ?_<;>intro h2<;>simp (disch:=omega) only [Sh.out h2,go_sem,seval]
  ·exact ⟨_,[],wk,_,_,bad,rfl,rfl⟩
  ·refine cD ?_ ?_<;>intro h3<;>simp (disch:=omega) only [Sh.out h3,go_sem,seval]
   ·exact ⟨_,[],wk,_,_,bad,rfl,rfl⟩
   ·have hr:((s.take (s.length-1)).drop 1).length<=1048576:=by simp;omega
    generalize (s.take (s.length-1)).drop 1=r at *
    refine ZJ (UO 2 rfl rfl ?_);simp (disch:=omega) only [go_sem,seval];refine ⟨_,_,EG (S:=1) (by':=1) (z:= .int .u8 0) rfl Zg rfl rfl ⟨Za,Za,Za⟩,?_⟩;simp (disch:=omega) only [go_sem,seval];refine Zd [18] _ _ _ _ ?_;simp (disch:=omega) only [go_sem,seval];refine ZR [18] [0] (fun q:Nat×List UInt8=> [(4,.sl 0 0 q.2.length q.2.length),(5,.p (.int .i64 q.1))]) (fun q=> [.elems 1 (q.2.map bU)]) (fun q=>q.1<=r.length+3/\q.2.length<=q.1) (fun q=>r.length+3-q.1) (0,[]) Zb (Weak.mk ?_) ?_
    ·simp (disch:=omega) only [List.map_nil,List.length_nil,go_sem,seval]
    ·rintro ⟨k,l⟩ ⟨hk,hl⟩;simp only at hk hl;simp (disch:=omega) only [go_sem,seval];refine cD ?_ ?_<;>intro h4<;>simp (disch:=omega) only [Sh.out h4,go_sem,seval]
     ·have hk2:k<r.length:=Za
      have hb:=Bn (nth r k);have hlen:(l.map bU).length=l.length:=List.length_map ..
      have app: ∀b:UInt8,(l++ [b]).map bU=l.map bU++ [.int .u8 (b.toNat:Nat)]:=fun b=>by rw [List.map_append];rfl
      refine gF ?_ ?_<;>intro h5<;>simp (disch:=omega) only [Sh.out h5,go_sem,seval]
      ·exact ⟨_,[],wk,_,_,bad,rfl,rfl⟩
      ·refine gF ?_ ?_<;>intro h6<;>simp (disch:=omega) only [Sh.out h6,go_sem,seval]
       ·exact ⟨_,[],wk,_,_,bad,rfl,rfl⟩
       ·refine cD ?_ ?_<;>intro h7<;>simp (disch:=omega) only [Sh.out h7,go_sem,seval]
        ·exact ⟨_,[],wk,_,_,bad,rfl,rfl⟩
        ·refine cD ?_ ?_<;>intro h8<;>simp (disch:=omega) only [Sh.out h8,go_sem,seval]
         ·refine MM (Ef _ (by simp;omega)) ?_;rintro _ _ ⟨x,n,hx,hn,rfl,rfl⟩;obtain ⟨b,rfl⟩: ∃b:UInt8,x=(b.toNat:Nat):=⟨UInt8.ofNat x.toNat,by rw [UInt8.toNat_ofNat'];omega⟩;obtain ⟨n,rfl⟩:=Int.eq_ofNat_of_zero_le hn.1;simp (disch:=omega) only [go_sem,seval];refine cD ?_ ?_<;>intro h9<;>simp (disch:=omega) only [Sh.out h9,go_sem,seval]
          ·exact ⟨_,[],wk,_,_,bad,rfl,rfl⟩
          ·exact ⟨(k+n+1,l++ [b]),⟨by simp only;omega,by simp;omega⟩,by simp only;omega,Weak.mk (by simp (disch:=omega) only [app,Int.natCast_add,List.length_append,List.length_cons,List.length_nil,go_sem,seval])⟩
         ·exact ⟨(k+1,l++ [nth r k]),⟨by simp only;omega,by simp;omega⟩,by simp only;omega,Weak.mk (by simp (disch:=omega) only [app,List.length_append,List.length_cons,List.length_nil,go_sem,seval])⟩
     ·refine Zp (Weak.fz (o:=0) (by rfl)) ?_;refine Zd [] _ _ _ _ ?_;simp (disch:=omega) only [List.map_cons,List.map_nil,List.set_cons_succ,List.set_cons_zero,K8,go_sem,seval];exact ⟨_,[],wk,_,_,⟨l,0,rfl,rfl⟩,rfl,rfl⟩
theorem Lo (s:List UInt8) (hs:s.length<=1048576):ACalls Tryz.prog 92 [.p (.str s)] [] fun y H'=> ∃a,(∃n:Nat,PartR s n/\a= .int .i64 (n:Nat))/\y= .p a/\H'= []:=by
 by_cases hq:0<s.length/\(nth s 0).toNat=34
 ·obtain ⟨hl,h34⟩:=hq;refine Ze [] Tryz.func92 rfl MA ?_;simp (disch:=omega) only [Tryz.f92,go_sem,seval];refine gT ?_ ?_<;>intro h1<;>simp (disch:=omega) only [Sh.out h1,go_sem,seval]
  ·refine cD ?_ ?_<;>intro h2<;>simp (disch:=omega) only [Sh.out h2,go_sem,seval]
   ·refine gD (Hf s hs) ?_;rintro _ ⟨n,hn,rfl⟩;simp (disch:=omega) only [go_sem,seval];refine MM (gC (s.take n) (by rw [List.length_take];omega)) ?_;rintro _ _ ⟨t,e,rfl,rfl⟩;simp (disch:=omega) only [go_sem,seval];refine cD ?_ ?_<;>intro h3<;>simp (disch:=omega) only [Sh.out h3,go_sem,seval]
    ·exact ⟨_,[],wk,_,⟨0,⟨Za,fun h=>absurd h34 h⟩,rfl⟩,rfl,rfl⟩
    ·exact ⟨_,[],wk,_,⟨n,⟨hn,fun h=>absurd h34 h⟩,rfl⟩,rfl,rfl⟩
   ·omega
  ·simp at h1;subst h1;simp at hl
 ·refine (Pz s hs hq).mono ?_;rintro y H' ⟨rfl,rfl⟩;exact ⟨_,⟨YK s,⟨G7 s,fun _=>rfl⟩,rfl⟩,rfl,rfl⟩
theorem HD (s:List UInt8) (hs:s.length<=1048576):ACalls Tryz.prog 45 [.p (.str s)] [] fun y H'=> ∃o,Wds s o/\y=WZ o/\H'= []:=by
 refine Ze [7,12] Tryz.func45 rfl cN ?_;simp (disch:=omega) only [Tryz.f45,go_sem,seval]
 refine ZR [7,12] [] (fun q:List UInt8×List (List UInt8)=> [(0,.p (.str q.1)),(4,.sl 0 0 q.2.length q.2.length)]) (fun q=> [.elems 1 (q.2.map WY)])
  (fun q=>q.2.length+q.1.length<=s.length/\ ∀z,Wds q.1 z->Wds s (z.map fun r=>q.2++r)) (fun q=>q.1.length) (s,[]) Zb (Weak.ofNil 4 1 rfl Zb (Weak.mk ?_)) ?_
 ·simp (disch:=omega) only [List.map_nil,List.length_nil,go_sem,seval]
 ·rintro ⟨r,o⟩ ⟨h3,h5⟩;simp only at h3 h5;simp (disch:=omega) only [go_sem,seval]
  have hrl:r= []\/0<r.length:=by cases r<;>simp
  rcases hrl with he | hrl
  ·subst he;refine cD ?_ ?_<;>intro h6<;>simp (disch:=omega) only [Sh.out h6,go_sem,seval]
   ·simp at h6
   ·refine Zp (Weak.fz (o:=0) (by rfl)) ?_;refine Zd [] _ _ _ _ ?_;simp (disch:=omega) only [List.map_cons,List.map_nil,List.set_cons_succ,List.set_cons_zero,go_sem,seval];exact ⟨WZ (some o),[],Weak.mk (by simp (disch:=omega) only [WZ,go_sem,seval]),_,by simpa using h5 _ .nil,rfl,rfl⟩
  ·refine cD ?_ ?_<;>intro h6<;>simp (disch:=omega) only [Sh.out h6,go_sem,seval]
   ·have hne:r≠ []:=List.length_pos_iff.1 hrl;refine gD (Lo r Za) ?_;rintro _ ⟨k,hp,rfl⟩;have hkl:=hp.1;simp (disch:=omega) only [go_sem,seval];refine cD ?_ ?_<;>intro h7<;>simp (disch:=omega) only [Sh.out h7,go_sem,seval]
    ·have h7':k=0:=Za
     subst h7';exact ⟨WZ none,[],Weak.mk (by simp (disch:=omega) only [WZ,go_sem,seval]),_,h5 _ (.bad r hne hp),rfl,rfl⟩
    ·have h7':0<k:=Za
     refine cD ?_ ?_<;>intro h8<;>simp (disch:=omega) only [Sh.out h8,go_sem,seval]
     ·have h8':k=r.length:=Za
      subst h8';refine XZ [] (fun _:Unit=> [(2,.sl 0 0 (o++ [r]).length (o++ [r]).length),(3,.p (.int .i64 0))]) (fun _=> [.elems 1 ((o++ [r]).map WY)]) (fun _=>True) ?_ ?_
      ·simp (disch:=omega) only [go_sem,seval];exact ⟨(),Weak.mk (by simp (disch:=omega) only [List.map_append,List.map_cons,List.map_nil,List.length_append,List.length_cons,List.length_nil,go_sem,seval])⟩
      ·intro _ _;refine Zp (Weak.fz (o:=0) (by rfl)) ?_;refine Zd [] _ _ _ _ ?_;simp (disch:=omega) only [List.map_cons,List.map_nil,List.set_cons_succ,List.set_cons_zero,go_sem,seval];exact ⟨WZ (some (o++ [r])),[],Weak.mk (by simp (disch:=omega) only [WZ,List.map_append,List.map_cons,List.map_nil,go_sem,seval]),_,h5 _ (.whole r hne hp),rfl,rfl⟩
     ·have h8': ¬k=r.length:=Za
      have hk:k<r.length:=Za
      refine gF ?_ ?_<;>intro h9<;>simp (disch:=omega) only [Sh.out h9,go_sem,seval]
      ·exact ⟨WZ none,[],Weak.mk (by simp (disch:=omega) only [WZ,go_sem,seval]),_,h5 _ (.bad2 r k hp h7' hk (.inl Za)),rfl,rfl⟩
      ·refine cD ?_ ?_<;>intro h10<;>simp (disch:=omega) only [Sh.out h10,go_sem,seval]
       ·exact ⟨WZ none,[],Weak.mk (by simp (disch:=omega) only [WZ,go_sem,seval]),_,h5 _ (.bad2 r k hp h7' hk (.inr Za)),rfl,rfl⟩
       ·refine ⟨(r.drop (k+1),o++ [r.take k]),⟨?_,?_⟩,?_,Weak.mk ?_⟩
        ·simp only [List.length_append,List.length_drop,List.length_cons,List.length_nil];omega
        ·intro z hz;have:=h5 _ (.cons r k z hp h7' hk Za Za hz)
         cases z<;>simpa using this
        ·simp only [List.length_drop];omega
        ·simp (disch:=omega) only [List.map_append,List.map_cons,List.map_nil,List.length_append,List.length_cons,List.length_nil,go_sem,seval];rw [List.take_length]
   ·exact absurd (List.length_pos_iff.1 hrl) (by simpa using h6)
theorem qB {g:FuncId} {args:List V} {s:List UInt8} {H:List AM.Obj} {K:V->List AM.Obj->Prop} (h:ACalls Tryz.prog g args [] fun y H'=> ∃o,Wds s o/\y=WZ o/\H'= []) (k: ∀o,Wds s o->K (WZ o) H) (ha:Zw 0 args=true:=by rfl):ACalls Tryz.prog g args H K :=
 (h.behind ha H).mono fun x H' hq=>by
  obtain ⟨y,H1,⟨o,hr,rfl,rfl⟩,rfl,rfl⟩:=hq
  cases o with
  | none=>simpa [Bc,Wl,WZ] using k none hr
  | some l=>simpa [Bc,Wl,WZ] using k (some l) hr
def AX (r:Row):List (List UInt8):= [[114,111,119],decS r.rt,if r.v.drp=true then [45] else [43]]
def rowNs (r:Row):List Int:= [r.v.order,r.place,r.tm.arr,r.tm.beg,r.tm.dep]
def XR (r:Row):List UInt8:=if r.tm.rest=true then [114,101,115,116] else [103,111]
def YL (r:Row) (q:Nat):List (List UInt8):=AX r++((rowNs r).take q).map decS
def ZV (r:Row) (q:Nat):List (List UInt8):=YL r 5++ [XR r]++(r.load.take q).map decS
def ZY (r:Row):List UInt8:=Zz (ZV r r.load.length) [32]++ [10]
structure RowPr (r:Row):Prop where
 rt:okD r.rt
 ns: ∀n∈rowNs r,okD n
 load: ∀n∈r.load,okD n
 len:r.load.length<=4096
theorem Cq {r:Row} {q:Nat} (h:q<(rowNs r).length):YL r (q+1)=YL r q++ [decS (nth (rowNs r) q)]:=by
 rw [YL,YL,List.take_succ_eq_append_getElem h,Zh h,List.map_append,List.append_assoc];rfl
theorem Cr {r:Row} {q:Nat} (h:q<r.load.length):ZV r (q+1)=ZV r q++ [decS (nth r.load q)]:=by
 rw [ZV,ZV,List.take_succ_eq_append_getElem h,Zh h,List.map_append,<- List.append_assoc];rfl
theorem ES {r:Row} :(rowNs r).length=5:=rfl
theorem JR {r:Row} {q:Nat} (h:q<=5):(YL r q).length=3+q:=by simp [YL,AX,rowNs];omega
theorem Y6 {r:Row} {q:Nat} (h:q<=r.load.length):(ZV r q).length=9+q:=by
 rw [ZV,List.length_append,List.length_append,JR (Nat.le_refl 5)];simp;omega
theorem Cs {r:Row} :ZV r 0=YL r 5++ [XR r]:=by simp [ZV]
def Wu (r:Row):AM.Obj:= .cells [.p (.int .i64 r.rt),.p (.int .i64 r.v.order),.p (.bool r.v.drp),.p (.int .i64 r.place),.p (.int .i64 r.tm.arr),.p (.int .i64 r.tm.beg),.p (.int .i64 r.tm.dep),.p (.bool r.tm.rest),.p (.list r.load_c (r.load.map eI))]
theorem Y3 {r:Row} (h:RowPr r):(Zz (ZV r r.load.length) [32]).length<=266825:=by
 have:=Jt (sep:= [32]) (B:=64) (xs:=ZV r r.load.length) fun s hs=>by
  simp only [ZV,YL,AX,List.append_assoc,List.mem_append,List.mem_cons,List.not_mem_nil,or_false,List.mem_map] at hs;rcases hs with (rfl | rfl | rfl) | ⟨n,hn,rfl⟩ | rfl | ⟨n,hn,rfl⟩
  ·simp
  ·have:=YY h.rt;omega
  ·split<;>simp
  ·have:=YY (h.ns n (List.mem_of_mem_take hn));omega
  ·rw [XR];split<;>simp
  ·have:=YY (h.load n (List.mem_of_mem_take hn));omega
 rw [Y6 (Nat.le_refl _)] at this;have:=h.len
 simp only [List.length_cons,List.length_nil] at *
 omega
def JK (l:List Row):List UInt8:=(l.map ZY).flatten
end Go.Proofs.YtmbelkfkhclnkaaGreatDoor.K
