/- Declarations that the closing texts need, part 14: joined by tools/slim.py. -/
import Derived.Test.YtmbelkfkhclnkaaGreatDoorYM13
import Derived.Lib.AtoiAllCases
import Derived.Lib.ItoaNum
import Derived.Lib.Join
set_option linter.unusedVariables false
set_option linter.unusedSimpArgs false
namespace Go.Proofs.YtmbelkfkhclnkaaGreatDoor.K
open Go Go.AM Go.Proofs
set_option maxRecDepth 8000
set_option maxHeartbeats 8000000
def XI (xs:List (List UInt8)) (sep:List UInt8):List UInt8:=Lib.join xs sep
def Bi : List UInt8->List UInt8->List (List UInt8)
 | acc,[]=> [acc]
 | acc,b::l=>if b=32 then acc::Bi [] l else Bi (acc++ [b]) l
def Xs (s:List UInt8):List (List UInt8):=Bi [] s
theorem I8 : Wg []=0:=rfl
theorem WN (b:UInt8) (l:List UInt8):Wg (b::l)=if b=32 then 0 else Wg l+1:=by
 have h:=WM 32 l
 have hi:Lib.indexByte (b::l) 32=if b=32 then 0 else if Lib.indexByte l 32= -1 then-1 else Lib.indexByte l 32+1:=by rw [Lib.indexByte];simp
 unfold Wg;rw [hi]
 by_cases e:b=32
 ·rw [if_pos e,if_pos e];rfl
 ·rw [if_neg e,if_neg e]
  by_cases e2:Lib.indexByte l 32= -1
  ·rw [if_pos e2,e2];simp
  ·rw [if_neg e2,if_neg Za,if_neg Za];omega
theorem DO : ∀(s acc:List UInt8),Bi acc s=if Wg s=s.length then [acc++s] else (acc++s.take (Wg s))::Xs (s.drop (Wg s+1))
 | [],acc=>by simp [Bi,I8]
 | b::l,acc=>by
  have h:=Ul l;rw [Bi,WN]
  by_cases e:b=32
  ·rw [if_pos e,if_pos e,if_neg Zb];simp [Xs]
  ·rw [if_neg e,if_neg e,DO l]
   by_cases e2:Wg l=l.length
   ·rw [if_pos e2,if_pos (by simp [e2])];simp
   ·rw [if_neg e2,if_neg (by simpa using e2)];simp
theorem Yc (s:List UInt8):Xs s=if Wg s=s.length then [s] else s.take (Wg s)::Xs (s.drop (Wg s+1)):=by
 rw [Xs,DO];simp
theorem B5 : ∀(s:List UInt8),Wg s<s.length->nth s (Wg s)=32
 | [],h=>by simp at h
 | b::l,h=>by
  rw [WN] at h ⊢
  by_cases e:b=32
  ·rw [if_pos e];subst e;rfl
  ·rw [if_neg e] at h ⊢;have:=B5 l (by simpa using h);simpa [nth] using this
theorem GD : ∀(w r:List UInt8),32 ∉ w->Wg (w++32::r)=w.length
 | [],r,_=>by rw [List.nil_append,WN,if_pos rfl];rfl
 | b::l,r,h=>by
  rw [List.cons_append,WN,if_neg (fun e=>h (by simp [e])),GD l r fun e=>h (by simp [e])];rfl
theorem Ku : ∀(w:List UInt8),32 ∉ w->Wg w=w.length
 | [],_=>rfl
 | b::l,h=>by rw [WN,if_neg (fun e=>h (by simp [e])),Ku l fun e=>h (by simp [e])];rfl
theorem NI {w:List UInt8} (h:Xt w=true):32 ∉ w:=fun e=>by
 simp only [Xt,Bool.and_eq_true,List.all_eq_true] at h;have:=h.2 32 e;simp [VB] at this
theorem U5 {w:List UInt8} (h:Xt w=true):w≠ []:=by
 simp only [Xt,Bool.and_eq_true,decide_eq_true_eq] at h;exact h.1
theorem CP {w:List UInt8} (h:Xt w=true):(nth w 0).toNat≠34:=by
 simp only [Xt,Bool.and_eq_true,List.all_eq_true,decide_eq_true_eq] at h;have:=h.2 _ (Zr (List.length_pos_iff.2 h.1));simp only [VB,Bool.and_eq_true,decide_eq_true_eq] at this;exact this.2
def PartR (s:List UInt8) (n:Nat):Prop:=n<=s.length/\((nth s 0).toNat≠34->n=YK s)
inductive Wds : List UInt8->Option (List (List UInt8))->Prop
 | nil:Wds [] (some [])
 | bad (s:List UInt8) (h:s≠ []) (hp:PartR s 0):Wds s none
 | whole (s:List UInt8) (h:s≠ []) (hp:PartR s s.length):Wds s (some [s])
 | bad2 (s:List UInt8) (n:Nat) (hp:PartR s n) (h:0<n) (h2:n<s.length) (h3:(nth s n).toNat≠32\/n+1=s.length):Wds s none
 | cons (s:List UInt8) (n:Nat) (o:Option (List (List UInt8))) (hp:PartR s n) (h:0<n) (h2:n<s.length) (h3:(nth s n).toNat=32) (h4:n+1<s.length) (ht:Wds (s.drop (n+1)) o):Wds s (o.map fun r=>s.take n::r)
theorem JL {s:List UInt8} {n:Nat} (h:0<n):nth (s.take n) 0=nth s 0:=by
 cases s with
 | nil=>simp
 | cons b l=>cases n with
  | zero=>omega
  | succ n=>rfl
theorem UZ {s:List UInt8} {n:Nat} (hp:PartR s n) (hq:(nth s 0).toNat≠34) (hn:0<n):n=Wg s/\Xt (s.take n)=true:=by
 have h:=hp.2 hq;unfold YK at h
 split at h
 ·subst h;exact ⟨rfl,by assumption⟩
 ·omega
theorem Di {s:List UInt8} (h: ∀w∈Xs s,Xt w=true):(nth s 0).toNat≠34:=by
 rw [Yc] at h;have hl:=Ul s
 split at h
 ·exact CP (h s Zb)
 ·have h1:=h _ (List.mem_cons_self ..);have hw:=CP h1
  have hn:0<Wg s:=by
   rcases Nat.eq_zero_or_pos (Wg s) with e | e
   ·rw [e] at h1;exact absurd rfl (U5 h1)
   ·exact e
  rwa [JL hn] at hw
theorem gL {s:List UInt8} {o:Option (List (List UInt8))} (h:Wds s o): ∀ws,o=some ws->s≠ []->(∀w∈ws,Xt w=true)->Xs s=ws:=by
 induction h with
 | nil=>intro ws _ h;exact absurd rfl h
 | bad=>intro ws h;cases h
 | bad2=>intro ws h;cases h
 | whole s h hp =>
  intro ws e _ hw
  cases e
  have h1:=hw s Zb;rw [Yc,if_pos (Ku s (NI h1))]
 | cons s n o hp h h2 h3 h4 ht ih =>
  intro ws e _ hw
  cases o with
  | none=>cases e
  | some r =>
   cases e
   have h1:=hw _ (List.mem_cons_self ..);have hq:=CP h1;rw [JL h] at hq;obtain ⟨rfl,_⟩:=UZ hp hq h;rw [Yc,if_neg Za,ih r rfl (fun e=>by have:=congrArg List.length e;simp at this;omega) fun w hw2=>hw w (by simp [hw2])]
theorem gM {s:List UInt8} {o:Option (List (List UInt8))} (h:Wds s o):(∀w∈Xs s,Xt w=true)->o=some (Xs s):=by
 induction h with
 | nil=>intro h;exact absurd rfl (U5 (h [] (by simp [Xs,Bi])))
 | bad s h hp =>
  intro hw;have e:=hp.2 (Di hw);exfalso;unfold YK at e
  split at e
  ·rename_i h1;rw [<- e] at h1;exact absurd rfl (U5 h1)
  ·rename_i h1;refine h1 (hw _ ?_);rw [Yc]
   split
   ·rename_i h2;rw [h2];simp
   ·exact List.mem_cons_self ..
 | whole s h hp =>
  intro hw;obtain ⟨e,h1⟩:=UZ hp (Di hw) (List.length_pos_iff.2 h);rw [Yc,if_pos e.symm]
 | bad2 s n hp h h2 h3 =>
  intro hw;obtain ⟨rfl,h1⟩:=UZ hp (Di hw) h;have hs:=B5 s h2;rcases h3 with h3 | h3
  ·rw [hs] at h3;exact absurd rfl h3
  ·rw [Yc,if_neg Za] at hw;have:=hw _ (List.mem_cons_of_mem _ (show []∈Xs (s.drop (Wg s+1)) by rw [List.drop_of_length_le Za];simp [Xs,Bi]));exact absurd rfl (U5 this)
 | cons s n o hp h h2 h3 h4 ht ih =>
  intro hw;obtain ⟨rfl,h1⟩:=UZ hp (Di hw) h;rw [Yc,if_neg Za] at hw ⊢;rw [ih fun w hw2=>hw w (List.mem_cons_of_mem _ hw2)];rfl
theorem Mg {s:List UInt8} {o:Option (List (List UInt8))} (h:Wds s o): ∀ws,o=some ws->ws.length<=s.length/\ ∀w∈ws,w≠ []/\w.length<=s.length:=by
 induction h with
 | nil=>intro ws e;cases e;simp
 | bad=>intro ws h;cases h
 | bad2=>intro ws h;cases h
 | whole s h hp =>
  intro ws e
  cases e
  have:=List.length_pos_iff.2 h;refine ⟨by simp;omega,fun w hw=> ?_⟩;simp at hw;subst hw;exact ⟨h,Nat.le_refl _⟩
 | cons s n o hp h h2 h3 h4 ht ih =>
  intro ws e
  cases o with
  | none=>cases e
  | some r =>
   cases e
   obtain ⟨i1,i2⟩:=ih r rfl;rw [List.length_drop] at i1 i2;refine ⟨by simp only [List.length_cons];omega,fun w hw=> ?_⟩;rcases List.mem_cons.1 hw with rfl | hw
   ·refine ⟨fun e=> ?_,by rw [List.length_take];omega⟩
    have:(s.take n).length=0:=by rw [e];rfl
    rw [List.length_take] at this;omega
   ·have:=i2 w hw;exact ⟨this.1,Za⟩
def Z8 (b:UInt8):Bool:=decide (48<=(b.toNat:Int))&&decide ((b.toNat:Int)<=57)
def Zz (a:Nat) (l:List UInt8):Nat:=l.foldl (fun a b=>a*10+(b.toNat-48)) a
def ZP (s:List UInt8):Int×Int :=
 if Zj s= []\/((nth (Zj s) 0).toNat=48/\s≠ [48]) then (0,3)
 else if (Zj s).all Z8=false then (0,3)
 else if s.take 1= [45] then (if Zz 0 (Zj s)<=9223372036854775808 then (-(Zz 0 (Zj s):Int),0) else (0,4))
 else if Zz 0 (Zj s)<9223372036854775808 then ((Zz 0 (Zj s):Int),0) else (0,4)
theorem UW : ∀(l:List UInt8) (a:Nat),a<=Zz a l
 | [],a=>Nat.le_refl _
 | b::l,a=>by
  have:=UW l (a*10+(b.toNat-48));simp only [Zz,List.foldl_cons] at this ⊢;omega
theorem Cl : ∀(l:List UInt8) (a:Nat),a<18446744073709551616->l.all Z8=true->Lib.parseUint10 a l=if Zz a l<18446744073709551616 then .ok (Zz a l) else .range
 | [],a,ha,_=>by rw [Lib.parseUint10];exact (if_pos ha).symm
 | b::l,a,ha,h=>by
  have hd:=h;simp only [List.all_cons,Bool.and_eq_true,Z8,decide_eq_true_eq] at hd
  have h2:l.all Z8=true:=by simpa [Z8] using hd.2
  have hg:=UW l (a*10+(b.toNat-48));have he:Zz a (b::l)=Zz (a*10+(b.toNat-48)) l:=rfl;rw [Lib.parseUint10,if_pos Za,he]
  by_cases h3:1844674407370955162<=a
  ·rw [if_pos h3,if_neg Za]
  ·rw [if_neg h3]
   by_cases h4:18446744073709551616<=a*10+(b.toNat-48)
   ·rw [if_pos h4,if_neg Za]
   ·rw [if_neg h4,Cl l _ Za h2]
theorem FN {s:List UInt8} (h0:Zj s≠ []) (h:(Zj s).all Z8=true) :
  Lib.atoiAll s=if s.take 1= [45] then (if Zz 0 (Zj s)<=9223372036854775808 then .ok (-(Zz 0 (Zj s):Int)) else .range)
   else if Zz 0 (Zj s)<9223372036854775808 then .ok (Zz 0 (Zj s):Int) else .range:=by
 cases s with
 | nil=>exact absurd rfl h0
 | cons b l =>
  by_cases hb:b=45
  ·subst hb
   have e:Zj (45::l)=l:=by simp [Zj]
   rw [e] at h h0;rw [e,if_pos Zb,Lib.atoiAll];simp only [show (45:UInt8).toNat=45 from rfl,or_true,if_true,true_and,not_true,false_and,if_false];rw [Lib.parseMag,if_neg h0,Cl l 0 Za h]
   by_cases h1:Zz 0 l<18446744073709551616
   ·rw [if_pos h1];simp only
    by_cases h2:9223372036854775808<Zz 0 l
    ·rw [if_pos h2,if_neg Za]
    ·rw [if_neg h2,if_pos Za]
   ·rw [if_neg h1,if_neg Za]
  ·have e:Zj (b::l)=b::l:=by simp [Zj,hb]
   rw [e] at h;have hd:=h;simp only [List.all_cons,Bool.and_eq_true,Z8,decide_eq_true_eq] at hd
   have h45:b.toNat≠45:=Za
   have h43:b.toNat≠43:=Za
   rw [e,if_neg (by simpa using hb),Lib.atoiAll];simp only [h43,h45,or_false,if_false,false_and,not_false_iff,true_and];rw [Lib.parseMag,if_neg Zb,Cl (b::l) 0 Za h]
   by_cases h1:Zz 0 (b::l)<18446744073709551616
   ·rw [if_pos h1];simp only
    by_cases h2:9223372036854775808<=Zz 0 (b::l)
    ·rw [if_pos h2,if_neg Za]
    ·rw [if_neg h2,if_pos Za]
   ·rw [if_neg h1,if_neg Za]
theorem G0 {s:List UInt8} (h0:Zj s≠ []) (h:(Zj s).all Z8=true) (h1: ¬((nth (Zj s) 0).toNat=48/\s≠ [48])) :
  (∃n,Lib.atoiAll s= .ok n/\ZP s=(n,0))\/(Lib.atoiAll s= .range/\ZP s=(0,4)):=by
 have ha:=FN h0 h
 have hn:ZP s=if s.take 1= [45] then (if Zz 0 (Zj s)<=9223372036854775808 then (-(Zz 0 (Zj s):Int),0) else (0,4)) else if Zz 0 (Zj s)<9223372036854775808 then ((Zz 0 (Zj s):Int),0) else (0,4):=by
  unfold ZP;rw [if_neg (by rintro (e | e);exact h0 e;exact h1 e),if_neg (by simp [h])]
 by_cases a:s.take 1= [45]
 ·rw [if_pos a] at ha hn
  by_cases b:Zz 0 (Zj s)<=9223372036854775808
  ·rw [if_pos b] at ha hn;exact .inl ⟨_,ha,hn⟩
  ·rw [if_neg b] at ha hn;exact .inr ⟨ha,hn⟩
 ·rw [if_neg a] at ha hn
  by_cases b:Zz 0 (Zj s)<9223372036854775808
  ·rw [if_pos b] at ha hn;exact .inl ⟨_,ha,hn⟩
  ·rw [if_neg b] at ha hn;exact .inr ⟨ha,hn⟩
theorem IQ {b:UInt8} (h:Z8 b=true):VB b=true:=by
 simp only [Z8,VB,Bool.and_eq_true,decide_eq_true_eq] at *
 omega
theorem Yz {s:List UInt8} (h:(ZP s).2=0):Xt s=true:=by
 unfold ZP at h
 split at h
 ·cases h
 ·rename_i h1
  split at h
  ·cases h
  ·rename_i h2
   have h2:(Zj s).all Z8=true:=by simpa using h2
   have h3:(Zj s).all VB=true:=by
    rw [List.all_eq_true] at h2 ⊢;exact fun b hb=>IQ (h2 b hb)
   have h0:Zj s≠ []:=fun e=>h1 (.inl e);have hs:s≠ []:=fun e=>h0 (by rw [e];rfl);rw [Xt,decide_eq_true hs,Bool.true_and];unfold Zj at h3
   split at h3
   ·rename_i h4
    cases s with
    | nil=>exact absurd rfl hs
    | cons b l =>
     simp at h4;subst h4;rw [List.all_cons,show VB 45=true by decide];simpa using h3
   ·exact h3
theorem Da (n:Nat):Q6 n=Lib.decDigits n:=by
 induction n using Nat.strongRecOn with
 | _ n ih =>
  rw [Q6,Lib.decDigits]
  split
  ·rfl
  ·rw [ih (n / 10) Za]
theorem F2 (n:Int):Lib.itoa n=Ve n:=by
 rw [Lib.itoa,Ve]
 split
 ·rw [Da]
 ·rw [Da,show n.toNat=n.natAbs by omega]
theorem Ri {k:Nat} (h:k<10):(UInt8.ofNat (48+k)).toNat=48+k:=by
 rw [UInt8.toNat_ofNat'];omega
theorem F3 : Q6 0= [48]:=by rw [Q6,dif_pos Za];rfl
set_option maxRecDepth 60000
theorem Wh (x:List UInt8) (r:List (List UInt8)) (sep:List UInt8):XI (x::r) sep=x++Lib.joinTail sep r:=Lib.join_cons _ _ _
theorem VJ {sep:List UInt8} {B:Nat} : ∀(r:List (List UInt8)),(∀s∈r,s.length<=B)->(Lib.joinTail sep r).length<=r.length*(B+sep.length)
 | [],_=>by simp [Lib.joinTail]
 | x::r,h=>by
  have ih:=VJ (sep:=sep) r fun s hs=>h s (by simp [hs]);have h1:=h x Zb
  simp only [Lib.joinTail,List.map_cons,List.flatten_cons,List.length_append,List.length_cons,Nat.add_mul,Nat.one_mul] at *
  omega
theorem EB {sep:List UInt8} {B:Nat} {xs:List (List UInt8)} (h: ∀s∈xs,s.length<=B):(XI xs sep).length<=xs.length*(B+sep.length):=by
 cases xs with
 | nil=>simp [XI,Lib.join_nil]
 | cons x r =>
  have ih:=VJ (sep:=sep) r fun s hs=>h s (by simp [hs]);have h1:=h x Zb;rw [Wh]
  simp only [List.length_append,List.length_cons,Nat.add_mul,Nat.one_mul] at *
  omega
def decS (n:Int):List UInt8:=Ve n
def okD (n:Int):Prop:=hU n
theorem Ql {n:Int} (h:okD n):(decS n).length<=20:=F1 n h
def eJ (l:List Bool):List UInt8:=if l= [] then [46] else l.map fun b=>if b=true then 121 else 110
def tA (l:List Bool):Prop:=l.length<=4096
def Rm (b:Bool):UInt8:=if b=true then 121 else 110
theorem gG {g:FuncId} {args:List V} {R:PV->Prop} {H:List AM.Obj} {K:V->List AM.Obj->Prop} (h:ACalls Tryz.prog g args [] fun y H'=> ∃a,R a/\y= .p a/\H'= []) (k: ∀a,R a->K (.p a) H) (ha:Zy 0 args=true:=by rfl):ACalls Tryz.prog g args H K :=
 (h.behind ha H).mono fun x H' hq=>by
  obtain ⟨y,H1,⟨a,hr,rfl,rfl⟩,rfl,rfl⟩:=hq;simpa [Bf,Wl] using k a hr
theorem MT {g:FuncId} {args:List V} {R:PV->PV->Prop} {H:List AM.Obj} {K:V->List AM.Obj->Prop} (h:ACalls Tryz.prog g args [] fun y H'=> ∃a b,R a b/\y= .tup [.p a,.p b]/\H'= []) (k: ∀a b,R a b->K (.tup [.p a,.p b]) H) (ha:Zy 0 args=true:=by rfl):ACalls Tryz.prog g args H K :=
 (h.behind ha H).mono fun x H' hq=>by
  obtain ⟨y,H1,⟨a,b,hr,rfl,rfl⟩,rfl,rfl⟩:=hq;simpa [Bf,Wl] using k a b hr
theorem Hq (s:List UInt8) (hs:s.length<=1048576):ACalls Tryz.prog 124 [.p (.str s)] [] fun y H'=> ∃a,(∃n:Nat,n<=s.length/\a= .int .i64 (n:Nat))/\y= .p a/\H'= []:=by
 refine Ze [] Tryz.func124 rfl Ob ?_;simp (disch:=omega) only [Tryz.f124,go_sem,seval];refine Zo [0] (fun k:Nat=> [(3,.p (.int .i64 k))]) (fun _=> []) (fun k=>k<=s.length+1) (fun k=>s.length+1-k) 1 Zb (Weak.mk ?_) ?_
 ·simp (disch:=omega) only [go_sem,seval]
 ·intro k hk;simp (disch:=omega) only [go_sem,seval];refine cD ?_ ?_<;>intro h1<;>simp (disch:=omega) only [Sh.out h1,go_sem,seval]
  ·have hk2:k<s.length:=Za
   refine cD ?_ ?_<;>intro h2<;>simp (disch:=omega) only [Sh.out h2,go_sem,seval]
   ·exact ⟨k+2,Za,Za,wk⟩
   ·refine cD ?_ ?_<;>intro h3<;>simp (disch:=omega) only [Sh.out h3,go_sem,seval]
    ·exact ⟨_,[],wk,_,⟨k+1,Za,rfl⟩,rfl,rfl⟩
    ·exact ⟨k+1,Za,Za,wk⟩
  ·exact ⟨_,[],wk,_,⟨0,Za,rfl⟩,rfl,rfl⟩
def lW (a b:PV):Prop:= ∃x n:Int,(0<=x/\x<256)/\(0<=n/\n<=3)/\a= .int .u8 x/\b= .int .i64 n
theorem tG (z:Int):0<=IntKind.u8.wrap z/\IntKind.u8.wrap z<256:=by
 simp only [IntKind.wrap,IntKind.signed,IntKind.bits];simp;omega
theorem Eu (s:List UInt8) (hs:s.length<=1048576):ACalls Tryz.prog 169 [.p (.str s)] [] fun y H'=> ∃a b,lW a b/\y= .tup [.p a,.p b]/\H'= []:=by
 refine Ze [] Tryz.func169 rfl Ow ?_;simp (disch:=omega) only [Tryz.f169,go_sem,seval]
 have hsl:s= []\/0<s.length:=by cases s<;>simp
 rcases hsl with he | hsl
 ·subst he;refine cD ?_ ?_<;>intro h1<;>simp (disch:=omega) only [Sh.out h1,go_sem,seval]
  ·exact ⟨_,[],wk,_,_,⟨0,0,Za,Za,rfl,rfl⟩,rfl,rfl⟩
  ·simp at h1
 ·have hb:=J3 (nth s 0);refine cD ?_ ?_<;>intro h1<;>simp (disch:=omega) only [Sh.out h1,go_sem,seval]
  ·exact absurd h1 (List.length_pos_iff.1 hsl)
  ·refine cD ?_ ?_<;>intro h2<;>simp (disch:=omega) only [Sh.out h2,go_sem,seval]
   ·exact ⟨_,[],wk,_,_,⟨((nth s 0).toNat:Nat),1,Za,Za,rfl,rfl⟩,rfl,rfl⟩
   ·refine cD ?_ ?_<;>intro h3<;>simp (disch:=omega) only [Sh.out h3,go_sem,seval]
    ·exact ⟨_,[],wk,_,_,⟨((nth s 0).toNat:Nat),1,Za,Za,rfl,rfl⟩,rfl,rfl⟩
    ·refine cD ?_ ?_<;>intro h4<;>simp (disch:=omega) only [Sh.out h4,go_sem,seval]
     ·exact ⟨_,[],wk,_,_,⟨10,1,Za,Za,rfl,rfl⟩,rfl,rfl⟩
     ·refine cD ?_ ?_<;>intro h5<;>simp (disch:=omega) only [Sh.out h5,go_sem,seval]
      ·refine cD ?_ ?_<;>intro h6<;>simp (disch:=omega) only [Sh.out h6,go_sem,seval]
       ·exact ⟨_,[],wk,_,_,⟨0,0,Za,Za,rfl,rfl⟩,rfl,rfl⟩
       ·refine Z7 6 mixed Zh Zh ?_;simp (disch:=omega) only [go_sem,seval];refine Xn (Wk _ _) ?_;simp (disch:=omega) only [go_sem,seval];refine Xn (Wk _ _) ?_;simp (disch:=omega) only [go_sem,seval];generalize Lib.indexByte [48,49,50,51,52,53,54,55,56,57,97,98,99,100,101,102] (nth s 1).toNat.toUInt8=hi;generalize Lib.indexByte [48,49,50,51,52,53,54,55,56,57,97,98,99,100,101,102] (nth s 2).toNat.toUInt8=lo;generalize hz:IntKind.u8.wrap (IntKind.i64.wrap _)=z
        have hw:0<=z/\z<256:=by rw [<- hz];exact tG _
        clear hz;refine gF ?_ ?_<;>intro g1<;>simp (disch:=omega) only [Sh.out g1,go_sem,seval]
        ·exact ⟨_,[],wk,_,_,⟨0,0,Za,Za,rfl,rfl⟩,rfl,rfl⟩
        ·refine gF ?_ ?_<;>intro g2<;>simp (disch:=omega) only [Sh.out g2,go_sem,seval]
         ·exact ⟨_,[],wk,_,_,⟨0,0,Za,Za,rfl,rfl⟩,rfl,rfl⟩
         ·refine gF ?_ ?_<;>intro g3<;>simp (disch:=omega) only [Sh.out g3,go_sem,seval]
          ·exact ⟨_,[],wk,_,_,⟨0,0,Za,Za,rfl,rfl⟩,rfl,rfl⟩
          ·refine gT ?_ ?_<;>intro g4<;>simp (disch:=omega) only [Sh.out g4,go_sem,seval]
           ·refine cD ?_ ?_<;>intro g5<;>simp (disch:=omega) only [Sh.out g5,go_sem,seval]
            ·exact ⟨_,[],wk,_,_,⟨0,0,Za,Za,rfl,rfl⟩,rfl,rfl⟩
            ·exact ⟨_,[],wk,_,_,⟨z,3,hw,Za,rfl,rfl⟩,rfl,rfl⟩
           ·exact ⟨_,[],wk,_,_,⟨z,3,hw,Za,rfl,rfl⟩,rfl,rfl⟩
      ·exact ⟨_,[],wk,_,_,⟨0,0,Za,Za,rfl,rfl⟩,rfl,rfl⟩
def rE (a b:PV):Prop:= ∃(t:List UInt8) (e:Int),a= .str t/\b= .int .i64 e
def bU (b:UInt8):PV:= .int .u8 (b.toNat:Nat)
theorem Ad : ∀l:List UInt8,Xi (l.map bU)=some l
 | []=>rfl
 | b::l=>by rw [List.map_cons,bU,Kl,Ad l];simp
theorem gE (s:List UInt8) (hs:s.length<=1048576):ACalls Tryz.prog 125 [.p (.str s)] [] fun y H'=> ∃a b,rE a b/\y= .tup [.p a,.p b]/\H'= []:=by
 refine Ze [4,18] Tryz.func125 rfl Oc ?_;simp (disch:=omega) only [Tryz.f125,go_sem,seval];have bad:rE (.str []) (.int .i64 3):=⟨_,_,rfl,rfl⟩;refine gF ?_ ?_<;>intro h1<;>simp (disch:=omega) only [Sh.out h1,go_sem,seval]
 ·exact ⟨_,[],wk,_,_,bad,rfl,rfl⟩
 ·refine gF ?_ ?_<;>intro h2<;>simp (disch:=omega) only [Sh.out h2,go_sem,seval]
  ·exact ⟨_,[],wk,_,_,bad,rfl,rfl⟩
  ·refine cD ?_ ?_<;>intro h3<;>simp (disch:=omega) only [Sh.out h3,go_sem,seval]
   ·exact ⟨_,[],wk,_,_,bad,rfl,rfl⟩
   ·have hr:((s.take (s.length-1)).drop 1).length<=1048576:=by simp;omega
    generalize (s.take (s.length-1)).drop 1=r at *
    refine ZI (UV 2 rfl rfl ?_);simp (disch:=omega) only [go_sem,seval];refine ⟨_,_,EU (S:=1) (by':=1) (z:= .int .u8 0) rfl Zh rfl rfl ⟨Za,Za,Za⟩,?_⟩;simp (disch:=omega) only [go_sem,seval];refine Zc [18] _ _ _ _ ?_;simp (disch:=omega) only [go_sem,seval];refine ZR [18] [0] (fun q:Nat×List UInt8=> [(4,.sl 0 0 q.2.length q.2.length),(5,.p (.int .i64 q.1))]) (fun q=> [.elems 1 (q.2.map bU)]) (fun q=>q.1<=r.length+3/\q.2.length<=q.1) (fun q=>r.length+3-q.1) (0,[]) Zb (Weak.mk ?_) ?_
    ·simp (disch:=omega) only [List.map_nil,List.length_nil,go_sem,seval]
    ·rintro ⟨k,l⟩ ⟨hk,hl⟩;simp only at hk hl;simp (disch:=omega) only [go_sem,seval];refine cD ?_ ?_<;>intro h4<;>simp (disch:=omega) only [Sh.out h4,go_sem,seval]
     ·have hk2:k<r.length:=Za
      have hb:=J3 (nth r k);have hlen:(l.map bU).length=l.length:=List.length_map ..
      have app: ∀b:UInt8,(l++ [b]).map bU=l.map bU++ [.int .u8 (b.toNat:Nat)]:=fun b=>by rw [List.map_append];rfl
      refine gF ?_ ?_<;>intro h5<;>simp (disch:=omega) only [Sh.out h5,go_sem,seval]
      ·exact ⟨_,[],wk,_,_,bad,rfl,rfl⟩
      ·refine gF ?_ ?_<;>intro h6<;>simp (disch:=omega) only [Sh.out h6,go_sem,seval]
       ·exact ⟨_,[],wk,_,_,bad,rfl,rfl⟩
       ·refine cD ?_ ?_<;>intro h7<;>simp (disch:=omega) only [Sh.out h7,go_sem,seval]
        ·exact ⟨_,[],wk,_,_,bad,rfl,rfl⟩
        ·refine cD ?_ ?_<;>intro h8<;>simp (disch:=omega) only [Sh.out h8,go_sem,seval]
         ·refine MT (Eu _ (by simp;omega)) ?_;rintro _ _ ⟨x,n,hx,hn,rfl,rfl⟩;obtain ⟨b,rfl⟩: ∃b:UInt8,x=(b.toNat:Nat):=⟨UInt8.ofNat x.toNat,by rw [UInt8.toNat_ofNat'];omega⟩;obtain ⟨n,rfl⟩:=Int.eq_ofNat_of_zero_le hn.1;simp (disch:=omega) only [go_sem,seval];refine cD ?_ ?_<;>intro h9<;>simp (disch:=omega) only [Sh.out h9,go_sem,seval]
          ·exact ⟨_,[],wk,_,_,bad,rfl,rfl⟩
          ·exact ⟨(k+n+1,l++ [b]),⟨by simp only;omega,by simp;omega⟩,by simp only;omega,Weak.mk (by simp (disch:=omega) only [app,Int.natCast_add,List.length_append,List.length_cons,List.length_nil,go_sem,seval])⟩
         ·exact ⟨(k+1,l++ [nth r k]),⟨by simp only;omega,by simp;omega⟩,by simp only;omega,Weak.mk (by simp (disch:=omega) only [app,List.length_append,List.length_cons,List.length_nil,go_sem,seval])⟩
     ·refine Zp (Weak.fz (o:=0) (by rfl)) ?_;refine Zc [] _ _ _ _ ?_;simp (disch:=omega) only [List.map_cons,List.map_nil,List.set_cons_succ,List.set_cons_zero,Ad,go_sem,seval];exact ⟨_,[],wk,_,_,⟨l,0,rfl,rfl⟩,rfl,rfl⟩
theorem LD (s:List UInt8) (hs:s.length<=1048576):ACalls Tryz.prog 92 [.p (.str s)] [] fun y H'=> ∃a,(∃n:Nat,PartR s n/\a= .int .i64 (n:Nat))/\y= .p a/\H'= []:=by
 by_cases hq:0<s.length/\(nth s 0).toNat=34
 ·obtain ⟨hl,h34⟩:=hq;refine Ze [] Tryz.func92 rfl MJ ?_;simp (disch:=omega) only [Tryz.f92,go_sem,seval];refine gT ?_ ?_<;>intro h1<;>simp (disch:=omega) only [Sh.out h1,go_sem,seval]
  ·refine cD ?_ ?_<;>intro h2<;>simp (disch:=omega) only [Sh.out h2,go_sem,seval]
   ·refine gG (Hq s hs) ?_;rintro _ ⟨n,hn,rfl⟩;simp (disch:=omega) only [go_sem,seval];refine MT (gE (s.take n) (by rw [List.length_take];omega)) ?_;rintro _ _ ⟨t,e,rfl,rfl⟩;simp (disch:=omega) only [go_sem,seval];refine cD ?_ ?_<;>intro h3<;>simp (disch:=omega) only [Sh.out h3,go_sem,seval]
    ·exact ⟨_,[],wk,_,⟨0,⟨Za,fun h=>absurd h34 h⟩,rfl⟩,rfl,rfl⟩
    ·exact ⟨_,[],wk,_,⟨n,⟨hn,fun h=>absurd h34 h⟩,rfl⟩,rfl,rfl⟩
   ·omega
  ·simp at h1;subst h1;simp at hl
 ·refine (PE s hs hq).mono ?_;rintro y H' ⟨rfl,rfl⟩;exact ⟨_,⟨YK s,⟨Hi s,fun _=>rfl⟩,rfl⟩,rfl,rfl⟩
theorem HP (s:List UInt8) (hs:s.length<=1048576):ACalls Tryz.prog 45 [.p (.str s)] [] fun y H'=> ∃o,Wds s o/\y=WY o/\H'= []:=by
 refine Ze [7,12] Tryz.func45 rfl cP ?_;simp (disch:=omega) only [Tryz.f45,go_sem,seval]
 refine ZR [7,12] [] (fun q:List UInt8×List (List UInt8)=> [(0,.p (.str q.1)),(4,.sl 0 0 q.2.length q.2.length)]) (fun q=> [.elems 1 (q.2.map WW)])
  (fun q=>q.2.length+q.1.length<=s.length/\ ∀z,Wds q.1 z->Wds s (z.map fun r=>q.2++r)) (fun q=>q.1.length) (s,[]) Zb (Weak.ofNil 4 1 rfl Zb (Weak.mk ?_)) ?_
 ·simp (disch:=omega) only [List.map_nil,List.length_nil,go_sem,seval]
 ·rintro ⟨r,o⟩ ⟨h3,h5⟩;simp only at h3 h5;simp (disch:=omega) only [go_sem,seval]
  have hrl:r= []\/0<r.length:=by cases r<;>simp
  rcases hrl with he | hrl
  ·subst he;refine cD ?_ ?_<;>intro h6<;>simp (disch:=omega) only [Sh.out h6,go_sem,seval]
   ·simp at h6
   ·refine Zp (Weak.fz (o:=0) (by rfl)) ?_;refine Zc [] _ _ _ _ ?_;simp (disch:=omega) only [List.map_cons,List.map_nil,List.set_cons_succ,List.set_cons_zero,go_sem,seval];exact ⟨WY (some o),[],Weak.mk (by simp (disch:=omega) only [WY,go_sem,seval]),_,by simpa using h5 _ .nil,rfl,rfl⟩
  ·refine cD ?_ ?_<;>intro h6<;>simp (disch:=omega) only [Sh.out h6,go_sem,seval]
   ·have hne:r≠ []:=List.length_pos_iff.1 hrl;refine gG (LD r Za) ?_;rintro _ ⟨k,hp,rfl⟩;have hkl:=hp.1;simp (disch:=omega) only [go_sem,seval];refine cD ?_ ?_<;>intro h7<;>simp (disch:=omega) only [Sh.out h7,go_sem,seval]
    ·have h7':k=0:=Za
     subst h7';exact ⟨WY none,[],Weak.mk (by simp (disch:=omega) only [WY,go_sem,seval]),_,h5 _ (.bad r hne hp),rfl,rfl⟩
    ·have h7':0<k:=Za
     refine cD ?_ ?_<;>intro h8<;>simp (disch:=omega) only [Sh.out h8,go_sem,seval]
     ·have h8':k=r.length:=Za
      subst h8';refine XK [] (fun _:Unit=> [(2,.sl 0 0 (o++ [r]).length (o++ [r]).length),(3,.p (.int .i64 0))]) (fun _=> [.elems 1 ((o++ [r]).map WW)]) (fun _=>True) ?_ ?_
      ·simp (disch:=omega) only [go_sem,seval];exact ⟨(),Weak.mk (by simp (disch:=omega) only [List.map_append,List.map_cons,List.map_nil,List.length_append,List.length_cons,List.length_nil,go_sem,seval])⟩
      ·intro _ _;refine Zp (Weak.fz (o:=0) (by rfl)) ?_;refine Zc [] _ _ _ _ ?_;simp (disch:=omega) only [List.map_cons,List.map_nil,List.set_cons_succ,List.set_cons_zero,go_sem,seval];exact ⟨WY (some (o++ [r])),[],Weak.mk (by simp (disch:=omega) only [WY,List.map_append,List.map_cons,List.map_nil,go_sem,seval]),_,h5 _ (.whole r hne hp),rfl,rfl⟩
     ·have h8': ¬k=r.length:=Za
      have hk:k<r.length:=Za
      refine gF ?_ ?_<;>intro h9<;>simp (disch:=omega) only [Sh.out h9,go_sem,seval]
      ·exact ⟨WY none,[],Weak.mk (by simp (disch:=omega) only [WY,go_sem,seval]),_,h5 _ (.bad2 r k hp h7' hk (.inl Za)),rfl,rfl⟩
      ·refine cD ?_ ?_<;>intro h10<;>simp (disch:=omega) only [Sh.out h10,go_sem,seval]
       ·exact ⟨WY none,[],Weak.mk (by simp (disch:=omega) only [WY,go_sem,seval]),_,h5 _ (.bad2 r k hp h7' hk (.inr Za)),rfl,rfl⟩
       ·refine ⟨(r.drop (k+1),o++ [r.take k]),⟨?_,?_⟩,?_,Weak.mk ?_⟩
        ·simp only [List.length_append,List.length_drop,List.length_cons,List.length_nil];omega
        ·intro z hz;have:=h5 _ (.cons r k z hp h7' hk Za Za hz)
         cases z<;>simpa using this
        ·simp only [List.length_drop];omega
        ·simp (disch:=omega) only [List.map_append,List.map_cons,List.map_nil,List.length_append,List.length_cons,List.length_nil,go_sem,seval];rw [List.take_length]
   ·exact absurd (List.length_pos_iff.1 hrl) (by simpa using h6)
theorem pZ {g:FuncId} {args:List V} {s:List UInt8} {H:List AM.Obj} {K:V->List AM.Obj->Prop} (h:ACalls Tryz.prog g args [] fun y H'=> ∃o,Wds s o/\y=WY o/\H'= []) (k: ∀o,Wds s o->K (WY o) H) (ha:Zy 0 args=true:=by rfl):ACalls Tryz.prog g args H K :=
 (h.behind ha H).mono fun x H' hq=>by
  obtain ⟨y,H1,⟨o,hr,rfl,rfl⟩,rfl,rfl⟩:=hq
  cases o with
  | none=>simpa [Bf,Wl,WY] using k none hr
  | some l=>simpa [Bf,Wl,WY] using k (some l) hr
def DK (r:Row):List (List UInt8):= [[114,111,119],decS r.rt,if r.v.drp=true then [45] else [43]]
def rowNs (r:Row):List Int:= [r.v.order,r.place,r.tm.arr,r.tm.beg,r.tm.dep]
def JV (r:Row):List UInt8:=if r.tm.rest=true then [114,101,115,116] else [103,111]
def Y2 (r:Row) (q:Nat):List (List UInt8):=DK r++((rowNs r).take q).map decS
def XB (r:Row) (q:Nat):List (List UInt8):=Y2 r 5++ [JV r]++(r.load.take q).map decS
def XV (r:Row):List UInt8:=XI (XB r r.load.length) [32]++ [10]
structure RowPr (r:Row):Prop where
 rt:okD r.rt
 ns: ∀n∈rowNs r,okD n
 load: ∀n∈r.load,okD n
 len:r.load.length<=4096
theorem Cv {r:Row} {q:Nat} (h:q<(rowNs r).length):Y2 r (q+1)=Y2 r q++ [decS (nth (rowNs r) q)]:=by
 rw [Y2,Y2,List.take_succ_eq_append_getElem h,Zg h,List.map_append,List.append_assoc];rfl
theorem Cw {r:Row} {q:Nat} (h:q<r.load.length):XB r (q+1)=XB r q++ [decS (nth r.load q)]:=by
 rw [XB,XB,List.take_succ_eq_append_getElem h,Zg h,List.map_append,<- List.append_assoc];rfl
theorem E7 {r:Row} :(rowNs r).length=5:=rfl
theorem JW {r:Row} {q:Nat} (h:q<=5):(Y2 r q).length=3+q:=by simp [Y2,DK,rowNs];omega
theorem Uu {r:Row} {q:Nat} (h:q<=r.load.length):(XB r q).length=9+q:=by
 rw [XB,List.length_append,List.length_append,JW (Nat.le_refl 5)];simp;omega
theorem Cx {r:Row} :XB r 0=Y2 r 5++ [JV r]:=by simp [XB]
def UH (r:Row):AM.Obj:= .cells [.p (.int .i64 r.rt),.p (.int .i64 r.v.order),.p (.bool r.v.drp),.p (.int .i64 r.place),.p (.int .i64 r.tm.arr),.p (.int .i64 r.tm.beg),.p (.int .i64 r.tm.dep),.p (.bool r.tm.rest),.p (.list r.load_c (r.load.map eI))]
theorem Um {r:Row} (h:RowPr r):(XI (XB r r.load.length) [32]).length<=266825:=by
 have:=EB (sep:= [32]) (B:=64) (xs:=XB r r.load.length) fun s hs=>by
  simp only [XB,Y2,DK,List.append_assoc,List.mem_append,List.mem_cons,List.not_mem_nil,or_false,List.mem_map] at hs;rcases hs with (rfl | rfl | rfl) | ⟨n,hn,rfl⟩ | rfl | ⟨n,hn,rfl⟩
  ·simp
  ·have:=Ql h.rt;omega
  ·split<;>simp
  ·have:=Ql (h.ns n (List.mem_of_mem_take hn));omega
  ·rw [JV];split<;>simp
  ·have:=Ql (h.load n (List.mem_of_mem_take hn));omega
 rw [Uu (Nat.le_refl _)] at this;have:=h.len
 simp only [List.length_cons,List.length_nil] at *
 omega
def DF (l:List Row):List UInt8:=(l.map XV).flatten
end Go.Proofs.YtmbelkfkhclnkaaGreatDoor.K
