/- Declarations that the closing texts need, part 16: joined by tools/slim.py. -/
import Derived.Test.YtmbelkfkhclnkaaGreatDoorZS15
import Derived.Lib.AtoiAllCases
import Derived.Lib.ItoaNum
import Derived.Lib.Join
set_option linter.unusedVariables false
set_option linter.unusedSimpArgs false
namespace Go.Proofs.YtmbelkfkhclnkaaGreatDoor.K
open Go Go.AM Go.Proofs
set_option maxRecDepth 8000
set_option maxHeartbeats 8000000
def XS (xs:List (List UInt8)) (sep:List UInt8):List UInt8:=Lib.join xs sep
def CY : List UInt8->List UInt8->List (List UInt8)
 | acc,[]=> [acc]
 | acc,b::l=>if b=32 then acc::CY [] l else CY (acc++ [b]) l
def Yf (s:List UInt8):List (List UInt8):=CY [] s
theorem Ns : Uh []=0:=rfl
theorem JS (b:UInt8) (l:List UInt8):Uh (b::l)=if b=32 then 0 else Uh l+1:=by
 have h:=QC 32 l
 have hi:Lib.indexByte (b::l) 32=if b=32 then 0 else if Lib.indexByte l 32= -1 then-1 else Lib.indexByte l 32+1:=by rw [Lib.indexByte];simp
 unfold Uh;rw [hi]
 by_cases e:b=32
 ·rw [if_pos e,if_pos e];rfl
 ·rw [if_neg e,if_neg e]
  by_cases e2:Lib.indexByte l 32= -1
  ·rw [if_pos e2,e2];simp
  ·rw [if_neg e2,if_neg Za,if_neg Za];omega
theorem FC : ∀(s acc:List UInt8),CY acc s=if Uh s=s.length then [acc++s] else (acc++s.take (Uh s))::Yf (s.drop (Uh s+1))
 | [],acc=>by simp [CY,Ns]
 | b::l,acc=>by
  have h:=A1 l;rw [CY,JS]
  by_cases e:b=32
  ·rw [if_pos e,if_pos e,if_neg Zb];simp [Yf]
  ·rw [if_neg e,if_neg e,FC l]
   by_cases e2:Uh l=l.length
   ·rw [if_pos e2,if_pos (by simp [e2])];simp
   ·rw [if_neg e2,if_neg (by simpa using e2)];simp
theorem UF (s:List UInt8):Yf s=if Uh s=s.length then [s] else s.take (Uh s)::Yf (s.drop (Uh s+1)):=by
 rw [Yf,FC];simp
theorem IU : ∀(s:List UInt8),Uh s<s.length->nth s (Uh s)=32
 | [],h=>by simp at h
 | b::l,h=>by
  rw [JS] at h ⊢
  by_cases e:b=32
  ·rw [if_pos e];subst e;rfl
  ·rw [if_neg e] at h ⊢;have:=IU l (by simpa using h);simpa [nth] using this
theorem Fh : ∀(w:List UInt8),32 ∉ w->Uh w=w.length
 | [],_=>rfl
 | b::l,h=>by rw [JS,if_neg (fun e=>h (by simp [e])),Fh l fun e=>h (by simp [e])];rfl
theorem Rj {w:List UInt8} (h:Xa w=true):32 ∉ w:=fun e=>by
 simp only [Xa,Bool.and_eq_true,List.all_eq_true] at h;have:=h.2 32 e;simp [Vc] at this
theorem Jm {w:List UInt8} (h:Xa w=true):w≠ []:=by
 simp only [Xa,Bool.and_eq_true,decide_eq_true_eq] at h;exact h.1
theorem Ey {w:List UInt8} (h:Xa w=true):(nth w 0).toNat≠34:=by
 simp only [Xa,Bool.and_eq_true,List.all_eq_true,decide_eq_true_eq] at h;have:=h.2 _ (Zu (List.length_pos_iff.2 h.1));simp only [Vc,Bool.and_eq_true,decide_eq_true_eq] at this;exact this.2
def PartR (s:List UInt8) (n:Nat):Prop:=n<=s.length/\((nth s 0).toNat≠34->n=Wk s)
inductive Wds : List UInt8->Option (List (List UInt8))->Prop
 | nil:Wds [] (some [])
 | bad (s:List UInt8) (h:s≠ []) (hp:PartR s 0):Wds s none
 | whole (s:List UInt8) (h:s≠ []) (hp:PartR s s.length):Wds s (some [s])
 | bad2 (s:List UInt8) (n:Nat) (hp:PartR s n) (h:0<n) (h2:n<s.length) (h3:(nth s n).toNat≠32\/n+1=s.length):Wds s none
 | cons (s:List UInt8) (n:Nat) (o:Option (List (List UInt8))) (hp:PartR s n) (h:0<n) (h2:n<s.length) (h3:(nth s n).toNat=32) (h4:n+1<s.length) (ht:Wds (s.drop (n+1)) o):Wds s (o.map fun r=>s.take n::r)
theorem Al {s:List UInt8} {n:Nat} (h:0<n):nth (s.take n) 0=nth s 0:=by
 cases s with
 | nil=>simp
 | cons b l=>cases n with
  | zero=>omega
  | succ n=>rfl
theorem Jj {s:List UInt8} {n:Nat} (hp:PartR s n) (hq:(nth s 0).toNat≠34) (hn:0<n):n=Uh s/\Xa (s.take n)=true:=by
 have h:=hp.2 hq;unfold Wk at h
 split at h
 ·subst h;exact ⟨rfl,by assumption⟩
 ·omega
theorem E5 {s:List UInt8} (h: ∀w∈Yf s,Xa w=true):(nth s 0).toNat≠34:=by
 rw [UF] at h;have hl:=A1 s
 split at h
 ·exact Ey (h s Zb)
 ·have h1:=h _ (List.mem_cons_self ..);have hw:=Ey h1
  have hn:0<Uh s:=by
   rcases Nat.eq_zero_or_pos (Uh s) with e | e
   ·rw [e] at h1;exact absurd rfl (Jm h1)
   ·exact e
  rwa [Al hn] at hw
theorem pQ {s:List UInt8} {o:Option (List (List UInt8))} (h:Wds s o): ∀ws,o=some ws->s≠ []->(∀w∈ws,Xa w=true)->Yf s=ws:=by
 induction h with
 | nil=>intro ws _ h;exact absurd rfl h
 | bad=>intro ws h;cases h
 | bad2=>intro ws h;cases h
 | whole s h hp =>
  intro ws e _ hw
  cases e
  have h1:=hw s Zb;rw [UF,if_pos (Fh s (Rj h1))]
 | cons s n o hp h h2 h3 h4 ht ih =>
  intro ws e _ hw
  cases o with
  | none=>cases e
  | some r =>
   cases e
   have h1:=hw _ (List.mem_cons_self ..);have hq:=Ey h1;rw [Al h] at hq;obtain ⟨rfl,_⟩:=Jj hp hq h;rw [UF,if_neg Za,ih r rfl (fun e=>by have:=congrArg List.length e;simp at this;omega) fun w hw2=>hw w (by simp [hw2])]
theorem pR {s:List UInt8} {o:Option (List (List UInt8))} (h:Wds s o):(∀w∈Yf s,Xa w=true)->o=some (Yf s):=by
 induction h with
 | nil=>intro h;exact absurd rfl (Jm (h [] (by simp [Yf,CY])))
 | bad s h hp =>
  intro hw;have e:=hp.2 (E5 hw);exfalso;unfold Wk at e
  split at e
  ·rename_i h1;rw [<- e] at h1;exact absurd rfl (Jm h1)
  ·rename_i h1;refine h1 (hw _ ?_);rw [UF]
   split
   ·rename_i h2;rw [h2];simp
   ·exact List.mem_cons_self ..
 | whole s h hp =>
  intro hw;obtain ⟨e,h1⟩:=Jj hp (E5 hw) (List.length_pos_iff.2 h);rw [UF,if_pos e.symm]
 | bad2 s n hp h h2 h3 =>
  intro hw;obtain ⟨rfl,h1⟩:=Jj hp (E5 hw) h;have hs:=IU s h2;rcases h3 with h3 | h3
  ·rw [hs] at h3;exact absurd rfl h3
  ·rw [UF,if_neg Za] at hw;have:=hw _ (List.mem_cons_of_mem _ (show []∈Yf (s.drop (Uh s+1)) by rw [List.drop_of_length_le Za];simp [Yf,CY]));exact absurd rfl (Jm this)
 | cons s n o hp h h2 h3 h4 ht ih =>
  intro hw;obtain ⟨rfl,h1⟩:=Jj hp (E5 hw) h;rw [UF,if_neg Za] at hw ⊢;rw [ih fun w hw2=>hw w (List.mem_cons_of_mem _ hw2)];rfl
theorem Ou {s:List UInt8} {o:Option (List (List UInt8))} (h:Wds s o): ∀ws,o=some ws->ws.length<=s.length/\ ∀w∈ws,w≠ []/\w.length<=s.length:=by
 induction h with
 | nil=>intro ws e;cases e;simp
 | bad=>intro ws h;cases h
 | bad2=>intro ws h;cases h
 | whole s h hp =>
  intro ws e
  cases e
  have:=List.length_pos_iff.2 h;refine ⟨by simp;omega,fun w hw=> ?_⟩;simp at hw;subst hw;exact ⟨h,Nat.le_refl _⟩
 | cons s n o hp h h2 h3 h4 ht ih =>
  intro ws e
  cases o with
  | none=>cases e
  | some r =>
   cases e
   obtain ⟨i1,i2⟩:=ih r rfl;rw [List.length_drop] at i1 i2;refine ⟨by simp only [List.length_cons];omega,fun w hw=> ?_⟩;rcases List.mem_cons.1 hw with rfl | hw
   ·refine ⟨fun e=> ?_,by rw [List.length_take];omega⟩
    have:(s.take n).length=0:=by rw [e];rfl
    rw [List.length_take] at this;omega
   ·have:=i2 w hw;exact ⟨this.1,Za⟩
def Y4 (b:UInt8):Bool:=decide (48<=(b.toNat:Int))&&decide ((b.toNat:Int)<=57)
def YJ (a:Nat) (l:List UInt8):Nat:=l.foldl (fun a b=>a*10+(b.toNat-48)) a
def Yl (s:List UInt8):Int×Int :=
 if ZM s= []\/((nth (ZM s) 0).toNat=48/\s≠ [48]) then (0,3)
 else if (ZM s).all Y4=false then (0,3)
 else if s.take 1= [45] then (if YJ 0 (ZM s)<=9223372036854775808 then (-(YJ 0 (ZM s):Int),0) else (0,4))
 else if YJ 0 (ZM s)<9223372036854775808 then ((YJ 0 (ZM s):Int),0) else (0,4)
theorem ET : ∀(l:List UInt8) (a:Nat),a<=YJ a l
 | [],a=>Nat.le_refl _
 | b::l,a=>by
  have:=ET l (a*10+(b.toNat-48));simp only [YJ,List.foldl_cons] at this ⊢;omega
theorem D3 : ∀(l:List UInt8) (a:Nat),a<18446744073709551616->l.all Y4=true->Lib.parseUint10 a l=if YJ a l<18446744073709551616 then .ok (YJ a l) else .range
 | [],a,ha,_=>by rw [Lib.parseUint10];exact (if_pos ha).symm
 | b::l,a,ha,h=>by
  have hd:=h;simp only [List.all_cons,Bool.and_eq_true,Y4,decide_eq_true_eq] at hd
  have h2:l.all Y4=true:=by simpa [Y4] using hd.2
  have hg:=ET l (a*10+(b.toNat-48));have he:YJ a (b::l)=YJ (a*10+(b.toNat-48)) l:=rfl;rw [Lib.parseUint10,if_pos Za,he]
  by_cases h3:1844674407370955162<=a
  ·rw [if_pos h3,if_neg Za]
  ·rw [if_neg h3]
   by_cases h4:18446744073709551616<=a*10+(b.toNat-48)
   ·rw [if_pos h4,if_neg Za]
   ·rw [if_neg h4,D3 l _ Za h2]
theorem HB {s:List UInt8} (h0:ZM s≠ []) (h:(ZM s).all Y4=true) :
  Lib.atoiAll s=if s.take 1= [45] then (if YJ 0 (ZM s)<=9223372036854775808 then .ok (-(YJ 0 (ZM s):Int)) else .range)
   else if YJ 0 (ZM s)<9223372036854775808 then .ok (YJ 0 (ZM s):Int) else .range:=by
 cases s with
 | nil=>exact absurd rfl h0
 | cons b l =>
  by_cases hb:b=45
  ·subst hb
   have e:ZM (45::l)=l:=by simp [ZM]
   rw [e] at h h0;rw [e,if_pos Zb,Lib.atoiAll];simp only [show (45:UInt8).toNat=45 from rfl,or_true,if_true,true_and,not_true,false_and,if_false];rw [Lib.parseMag,if_neg h0,D3 l 0 Za h]
   by_cases h1:YJ 0 l<18446744073709551616
   ·rw [if_pos h1];simp only
    by_cases h2:9223372036854775808<YJ 0 l
    ·rw [if_pos h2,if_neg Za]
    ·rw [if_neg h2,if_pos Za]
   ·rw [if_neg h1,if_neg Za]
  ·have e:ZM (b::l)=b::l:=by simp [ZM,hb]
   rw [e] at h;have hd:=h;simp only [List.all_cons,Bool.and_eq_true,Y4,decide_eq_true_eq] at hd
   have h45:b.toNat≠45:=Za
   have h43:b.toNat≠43:=Za
   rw [e,if_neg (by simpa using hb),Lib.atoiAll];simp only [h43,h45,or_false,if_false,false_and,not_false_iff,true_and];rw [Lib.parseMag,if_neg Zb,D3 (b::l) 0 Za h]
   by_cases h1:YJ 0 (b::l)<18446744073709551616
   ·rw [if_pos h1];simp only
    by_cases h2:9223372036854775808<=YJ 0 (b::l)
    ·rw [if_pos h2,if_neg Za]
    ·rw [if_neg h2,if_pos Za]
   ·rw [if_neg h1,if_neg Za]
theorem I7 {s:List UInt8} (h0:ZM s≠ []) (h:(ZM s).all Y4=true) (h1: ¬((nth (ZM s) 0).toNat=48/\s≠ [48])) :
  (∃n,Lib.atoiAll s= .ok n/\Yl s=(n,0))\/(Lib.atoiAll s= .range/\Yl s=(0,4)):=by
 have ha:=HB h0 h
 have hn:Yl s=if s.take 1= [45] then (if YJ 0 (ZM s)<=9223372036854775808 then (-(YJ 0 (ZM s):Int),0) else (0,4)) else if YJ 0 (ZM s)<9223372036854775808 then ((YJ 0 (ZM s):Int),0) else (0,4):=by
  unfold Yl;rw [if_neg (by rintro (e | e);exact h0 e;exact h1 e),if_neg (by simp [h])]
 by_cases a:s.take 1= [45]
 ·rw [if_pos a] at ha hn
  by_cases b:YJ 0 (ZM s)<=9223372036854775808
  ·rw [if_pos b] at ha hn;exact .inl ⟨_,ha,hn⟩
  ·rw [if_neg b] at ha hn;exact .inr ⟨ha,hn⟩
 ·rw [if_neg a] at ha hn
  by_cases b:YJ 0 (ZM s)<9223372036854775808
  ·rw [if_pos b] at ha hn;exact .inl ⟨_,ha,hn⟩
  ·rw [if_neg b] at ha hn;exact .inr ⟨ha,hn⟩
theorem M1 {b:UInt8} (h:Y4 b=true):Vc b=true:=by
 simp only [Y4,Vc,Bool.and_eq_true,decide_eq_true_eq] at *
 omega
theorem U3 {s:List UInt8} (h:(Yl s).2=0):Xa s=true:=by
 unfold Yl at h
 split at h
 ·cases h
 ·rename_i h1
  split at h
  ·cases h
  ·rename_i h2
   have h2:(ZM s).all Y4=true:=by simpa using h2
   have h3:(ZM s).all Vc=true:=by
    rw [List.all_eq_true] at h2 ⊢;exact fun b hb=>M1 (h2 b hb)
   have h0:ZM s≠ []:=fun e=>h1 (.inl e);have hs:s≠ []:=fun e=>h0 (by rw [e];rfl);rw [Xa,decide_eq_true hs,Bool.true_and];unfold ZM at h3
   split at h3
   ·rename_i h4
    cases s with
    | nil=>exact absurd rfl hs
    | cons b l =>
     simp at h4;subst h4;rw [List.all_cons,show Vc 45=true by decide];simpa using h3
   ·exact h3
theorem EV (n:Nat):dec n=Lib.decDigits n:=by
 induction n using Nat.strongRecOn with
 | _ n ih =>
  rw [dec,Lib.decDigits]
  split
  ·rfl
  ·rw [ih (n / 10) Za]
theorem HZ (n:Int):Lib.itoa n=WD n:=by
 rw [Lib.itoa,WD]
 split
 ·rw [EV]
 ·rw [EV,show n.toNat=n.natAbs by omega]
set_option maxRecDepth 60000
theorem DK (x:List UInt8) (r:List (List UInt8)) (sep:List UInt8):XS (x::r) sep=x++Lib.joinTail sep r:=Lib.join_cons _ _ _
theorem UY {sep:List UInt8} {B:Nat} : ∀(r:List (List UInt8)),(∀s∈r,s.length<=B)->(Lib.joinTail sep r).length<=r.length*(B+sep.length)
 | [],_=>by simp [Lib.joinTail]
 | x::r,h=>by
  have ih:=UY (sep:=sep) r fun s hs=>h s (by simp [hs]);have h1:=h x Zb
  simp only [Lib.joinTail,List.map_cons,List.flatten_cons,List.length_append,List.length_cons,Nat.add_mul,Nat.one_mul] at *
  omega
theorem K9 {sep:List UInt8} {B:Nat} {xs:List (List UInt8)} (h: ∀s∈xs,s.length<=B):(XS xs sep).length<=xs.length*(B+sep.length):=by
 cases xs with
 | nil=>simp [XS,Lib.join_nil]
 | cons x r =>
  have ih:=UY (sep:=sep) r fun s hs=>h s (by simp [hs]);have h1:=h x Zb;rw [DK]
  simp only [List.length_append,List.length_cons,Nat.add_mul,Nat.one_mul] at *
  omega
def AW (n:Int):List UInt8:=WD n
def okD (n:Int):Prop:=Yw n
theorem Vn {n:Int} (h:okD n):(AW n).length<=20:=Y3 n h
def LM (l:List Bool):List UInt8:=if l= [] then [46] else l.map fun b=>if b=true then 121 else 110
def okR (l:List Bool):Prop:=l.length<=4096
theorem LN {l:List Bool} (h:okR l):(LM l).length<=4096:=by
 unfold LM
 split
 ·simp
 ·rw [List.length_map];exact h
def aC (b:Bool):UInt8:=if b=true then 121 else 110
def Eu (v:Vis):List UInt8:=(if v.drp=true then [45] else [43])++AW v.order
def Q2 (r:Rte):List (List UInt8):= [[114,111,117,116,101],AW r.typ,AW r.start,LM r.rests]
def Uk (r:Rte):List UInt8:=XS (Q2 r++r.visits.map Eu) [32]++ [10]
def FI : List UInt8:= [117,110,115,101,114,118,101,100]
def jZ (p:Pln):List UInt8:=XS ([FI]++p.unserved.map AW) [32]++ [10]
def vT (p:Pln):List UInt8:=(p.routes.map Uk).flatten++jZ p
structure PrOk (p:Pln):Prop where
 routes:p.routes.length<=4096
 unserved:p.unserved.length<=4096
 rte: ∀r∈p.routes,r.visits.length<=4096/\okD r.typ/\okD r.start/\okR r.rests/\ ∀v∈r.visits,okD v.order
 uns: ∀u∈p.unserved,okD u
theorem Ae {r:Rte} (h:r.visits.length<=4096/\okD r.typ/\okD r.start/\okR r.rests/\ ∀v∈r.visits,okD v.order):(XS (Q2 r++r.visits.map Eu) [32]).length<=16797700:=by
 obtain ⟨h1,h2,h3,h4,h5⟩:=h
 have:=K9 (sep:= [32]) (B:=4096) (xs:=Q2 r++r.visits.map Eu) fun s hs=>by
  rcases List.mem_append.1 hs with hs | hs
  ·simp only [Q2,List.mem_cons,List.not_mem_nil,or_false] at hs;rcases hs with rfl | rfl | rfl | rfl
   ·simp
   ·have:=Vn h2;omega
   ·have:=Vn h3;omega
   ·exact LN h4
  ·obtain ⟨v,hv,rfl⟩:=List.mem_map.1 hs;have:=Vn (h5 v hv);rw [Eu,List.length_append]
   split<;>simp<;>omega
 simp only [List.length_append,List.length_map,Q2,List.length_cons,List.length_nil] at *
 omega
theorem Gy {p:Pln} (h:PrOk p) (k:Nat):(((p.routes.take k).map Uk).flatten).length<=k*16797701:=by
 induction k with
 | zero=>simp
 | succ k ih =>
  by_cases hk:k<p.routes.length
  ·rw [List.take_succ_eq_append_getElem hk,List.map_append,List.flatten_append,List.length_append];have:=Ae (h.rte _ (List.getElem_mem hk))
   simp only [List.map_cons,List.map_nil,List.flatten_cons,List.flatten_nil,List.append_nil,Uk,List.length_append,List.length_cons,List.length_nil] at *
   omega
  ·rw [List.take_of_length_le Za] at ih ⊢;exact Nat.le_trans ih (Nat.mul_le_mul_right _ (Nat.le_succ k))
def V4 (r:Rte) (q:Nat):List (List UInt8):=Q2 r++(r.visits.take q).map Eu
theorem Gx {r:Rte} {q:Nat} (h:q<r.visits.length):V4 r (q+1)=V4 r q++ [Eu (nth r.visits q)]:=by
 rw [V4,V4,List.take_succ_eq_append_getElem h,Zi h,List.map_append,List.append_assoc];rfl
theorem IZ {r:Rte} {q:Nat} (h:q<=r.visits.length):(V4 r q).length=4+q:=by simp [V4,Q2];omega
def Ub (p:Pln) (q:Nat):List (List UInt8):= [FI]++(p.unserved.take q).map AW
theorem G6 {p:Pln} {q:Nat} (h:q<p.unserved.length):Ub p (q+1)=Ub p q++ [AW (nth p.unserved q)]:=by
 rw [Ub,Ub,List.take_succ_eq_append_getElem h,Zi h,List.map_append,List.append_assoc];rfl
theorem Ma {p:Pln} {q:Nat} (h:q<=p.unserved.length):(Ub p q).length=1+q:=by simp [Ub];omega
theorem pN {g:FuncId} {args:List V} {R:PV->Prop} {H:List AM.Obj} {K:V->List AM.Obj->Prop} (h:ACalls Tryz.prog g args [] fun y H'=> ∃a,R a/\y= .p a/\H'= []) (k: ∀a,R a->K (.p a) H) (ha:ZE 0 args=true:=by rfl):ACalls Tryz.prog g args H K :=
 (h.behind ha H).mono fun x H' hq=>by
  obtain ⟨y,H1,⟨a,hr,rfl,rfl⟩,rfl,rfl⟩:=hq;simpa [Vb,Wf] using k a hr
theorem Pe {g:FuncId} {args:List V} {R:PV->PV->Prop} {H:List AM.Obj} {K:V->List AM.Obj->Prop} (h:ACalls Tryz.prog g args [] fun y H'=> ∃a b,R a b/\y= .tup [.p a,.p b]/\H'= []) (k: ∀a b,R a b->K (.tup [.p a,.p b]) H) (ha:ZE 0 args=true:=by rfl):ACalls Tryz.prog g args H K :=
 (h.behind ha H).mono fun x H' hq=>by
  obtain ⟨y,H1,⟨a,b,hr,rfl,rfl⟩,rfl,rfl⟩:=hq;simpa [Vb,Wf] using k a b hr
theorem LG (s:List UInt8) (hs:s.length<=1048576):ACalls Tryz.prog 124 [.p (.str s)] [] fun y H'=> ∃a,(∃n:Nat,n<=s.length/\a= .int .i64 (n:Nat))/\y= .p a/\H'= []:=by
 refine Zg [] Tryz.func124 rfl R3 ?_;simp (disch:=omega) only [Tryz.f124,go_sem,seval];refine Zj [0] (fun k:Nat=> [(3,.p (.int .i64 k))]) (fun _=> []) (fun k=>k<=s.length+1) (fun k=>s.length+1-k) 1 Zb (Weak.mk ?_) ?_
 ·simp (disch:=omega) only [go_sem,seval]
 ·intro k hk;simp (disch:=omega) only [go_sem,seval];refine cD ?_ ?_<;>intro h1<;>simp (disch:=omega) only [Sh.out h1,go_sem,seval]
  ·have hk2:k<s.length:=Za
   refine cD ?_ ?_<;>intro h2<;>simp (disch:=omega) only [Sh.out h2,go_sem,seval]
   ·exact ⟨k+2,Za,Za,wk⟩
   ·refine cD ?_ ?_<;>intro h3<;>simp (disch:=omega) only [Sh.out h3,go_sem,seval]
    ·exact ⟨_,[],wk,_,⟨k+1,Za,rfl⟩,rfl,rfl⟩
    ·exact ⟨k+1,Za,Za,wk⟩
  ·exact ⟨_,[],wk,_,⟨0,Za,rfl⟩,rfl,rfl⟩
def uL (a b:PV):Prop:= ∃x n:Int,(0<=x/\x<256)/\(0<=n/\n<=3)/\a= .int .u8 x/\b= .int .i64 n
theorem u8w (z:Int):0<=IntKind.u8.wrap z/\IntKind.u8.wrap z<256:=by
 simp only [IntKind.wrap,IntKind.signed,IntKind.bits];simp;omega
theorem Gj (s:List UInt8) (hs:s.length<=1048576):ACalls Tryz.prog 169 [.p (.str s)] [] fun y H'=> ∃a b,uL a b/\y= .tup [.p a,.p b]/\H'= []:=by
 refine Zg [] Tryz.func169 rfl Sw ?_;simp (disch:=omega) only [Tryz.f169,go_sem,seval]
 have hsl:s= []\/0<s.length:=by cases s<;>simp
 rcases hsl with he | hsl
 ·subst he;refine cD ?_ ?_<;>intro h1<;>simp (disch:=omega) only [Sh.out h1,go_sem,seval]
  ·exact ⟨_,[],wk,_,_,⟨0,0,Za,Za,rfl,rfl⟩,rfl,rfl⟩
  ·simp at h1
 ·have hb:=Kx (nth s 0);refine cD ?_ ?_<;>intro h1<;>simp (disch:=omega) only [Sh.out h1,go_sem,seval]
  ·exact absurd h1 (List.length_pos_iff.1 hsl)
  ·refine cD ?_ ?_<;>intro h2<;>simp (disch:=omega) only [Sh.out h2,go_sem,seval]
   ·exact ⟨_,[],wk,_,_,⟨((nth s 0).toNat:Nat),1,Za,Za,rfl,rfl⟩,rfl,rfl⟩
   ·refine cD ?_ ?_<;>intro h3<;>simp (disch:=omega) only [Sh.out h3,go_sem,seval]
    ·exact ⟨_,[],wk,_,_,⟨((nth s 0).toNat:Nat),1,Za,Za,rfl,rfl⟩,rfl,rfl⟩
    ·refine cD ?_ ?_<;>intro h4<;>simp (disch:=omega) only [Sh.out h4,go_sem,seval]
     ·exact ⟨_,[],wk,_,_,⟨10,1,Za,Za,rfl,rfl⟩,rfl,rfl⟩
     ·refine cD ?_ ?_<;>intro h5<;>simp (disch:=omega) only [Sh.out h5,go_sem,seval]
      ·refine cD ?_ ?_<;>intro h6<;>simp (disch:=omega) only [Sh.out h6,go_sem,seval]
       ·exact ⟨_,[],wk,_,_,⟨0,0,Za,Za,rfl,rfl⟩,rfl,rfl⟩
       ·refine Zv 6 mixed Ze Ze ?_;simp (disch:=omega) only [go_sem,seval];refine Zn (W1 _ _) ?_;simp (disch:=omega) only [go_sem,seval];refine Zn (W1 _ _) ?_;simp (disch:=omega) only [go_sem,seval];generalize Lib.indexByte [48,49,50,51,52,53,54,55,56,57,97,98,99,100,101,102] (nth s 1).toNat.toUInt8=hi;generalize Lib.indexByte [48,49,50,51,52,53,54,55,56,57,97,98,99,100,101,102] (nth s 2).toNat.toUInt8=lo;generalize hz:IntKind.u8.wrap (IntKind.i64.wrap _)=z
        have hw:0<=z/\z<256:=by rw [<- hz];exact u8w _
        clear hz;refine gF ?_ ?_<;>intro g1<;>simp (disch:=omega) only [Sh.out g1,go_sem,seval]
        ·exact ⟨_,[],wk,_,_,⟨0,0,Za,Za,rfl,rfl⟩,rfl,rfl⟩
        ·refine gF ?_ ?_<;>intro g2<;>simp (disch:=omega) only [Sh.out g2,go_sem,seval]
         ·exact ⟨_,[],wk,_,_,⟨0,0,Za,Za,rfl,rfl⟩,rfl,rfl⟩
         ·refine gF ?_ ?_<;>intro g3<;>simp (disch:=omega) only [Sh.out g3,go_sem,seval]
          ·exact ⟨_,[],wk,_,_,⟨0,0,Za,Za,rfl,rfl⟩,rfl,rfl⟩
          ·refine gT ?_ ?_<;>intro g4<;>simp (disch:=omega) only [Sh.out g4,go_sem,seval]
           ·refine cD ?_ ?_<;>intro g5<;>simp (disch:=omega) only [Sh.out g5,go_sem,seval]
            ·exact ⟨_,[],wk,_,_,⟨0,0,Za,Za,rfl,rfl⟩,rfl,rfl⟩
            ·exact ⟨_,[],wk,_,_,⟨z,3,hw,Za,rfl,rfl⟩,rfl,rfl⟩
           ·exact ⟨_,[],wk,_,_,⟨z,3,hw,Za,rfl,rfl⟩,rfl,rfl⟩
      ·exact ⟨_,[],wk,_,_,⟨0,0,Za,Za,rfl,rfl⟩,rfl,rfl⟩
def zJ (a b:PV):Prop:= ∃(t:List UInt8) (e:Int),a= .str t/\b= .int .i64 e
def bU (b:UInt8):PV:= .int .u8 (b.toNat:Nat)
theorem BY : ∀l:List UInt8,Xd (l.map bU)=some l
 | []=>rfl
 | b::l=>by rw [List.map_cons,bU,AQ,BY l];simp
theorem pM (s:List UInt8) (hs:s.length<=1048576):ACalls Tryz.prog 125 [.p (.str s)] [] fun y H'=> ∃a b,zJ a b/\y= .tup [.p a,.p b]/\H'= []:=by
 refine Zg [4,18] Tryz.func125 rfl R4 ?_;simp (disch:=omega) only [Tryz.f125,go_sem,seval];have bad:zJ (.str []) (.int .i64 3):=⟨_,_,rfl,rfl⟩;refine gF ?_ ?_<;>intro h1<;>simp (disch:=omega) only [Sh.out h1,go_sem,seval]
 ·exact ⟨_,[],wk,_,_,bad,rfl,rfl⟩
 ·refine gF ?_ ?_<;>intro h2<;>simp (disch:=omega) only [Sh.out h2,go_sem,seval]
  ·exact ⟨_,[],wk,_,_,bad,rfl,rfl⟩
  ·refine cD ?_ ?_<;>intro h3<;>simp (disch:=omega) only [Sh.out h3,go_sem,seval]
   ·exact ⟨_,[],wk,_,_,bad,rfl,rfl⟩
   ·have hr:((s.take (s.length-1)).drop 1).length<=1048576:=by simp;omega
    generalize (s.take (s.length-1)).drop 1=r at *
    refine Z0 (Jf 2 rfl rfl ?_);simp (disch:=omega) only [go_sem,seval];refine ⟨_,_,GI (S:=1) (by':=1) (z:= .int .u8 0) rfl Ze rfl rfl ⟨Za,Za,Za⟩,?_⟩;simp (disch:=omega) only [go_sem,seval];refine Zd [18] _ _ _ _ ?_;simp (disch:=omega) only [go_sem,seval];refine ZH [18] [0] (fun q:Nat×List UInt8=> [(4,.sl 0 0 q.2.length q.2.length),(5,.p (.int .i64 q.1))]) (fun q=> [.elems 1 (q.2.map bU)]) (fun q=>q.1<=r.length+3/\q.2.length<=q.1) (fun q=>r.length+3-q.1) (0,[]) Zb (Weak.mk ?_) ?_
    ·simp (disch:=omega) only [List.map_nil,List.length_nil,go_sem,seval]
    ·rintro ⟨k,l⟩ ⟨hk,hl⟩;simp only at hk hl;simp (disch:=omega) only [go_sem,seval];refine cD ?_ ?_<;>intro h4<;>simp (disch:=omega) only [Sh.out h4,go_sem,seval]
     ·have hk2:k<r.length:=Za
      have hb:=Kx (nth r k);have hlen:(l.map bU).length=l.length:=List.length_map ..
      have app: ∀b:UInt8,(l++ [b]).map bU=l.map bU++ [.int .u8 (b.toNat:Nat)]:=fun b=>by rw [List.map_append];rfl
      refine gF ?_ ?_<;>intro h5<;>simp (disch:=omega) only [Sh.out h5,go_sem,seval]
      ·exact ⟨_,[],wk,_,_,bad,rfl,rfl⟩
      ·refine gF ?_ ?_<;>intro h6<;>simp (disch:=omega) only [Sh.out h6,go_sem,seval]
       ·exact ⟨_,[],wk,_,_,bad,rfl,rfl⟩
       ·refine cD ?_ ?_<;>intro h7<;>simp (disch:=omega) only [Sh.out h7,go_sem,seval]
        ·exact ⟨_,[],wk,_,_,bad,rfl,rfl⟩
        ·refine cD ?_ ?_<;>intro h8<;>simp (disch:=omega) only [Sh.out h8,go_sem,seval]
         ·refine Pe (Gj _ (by simp;omega)) ?_;rintro _ _ ⟨x,n,hx,hn,rfl,rfl⟩;obtain ⟨b,rfl⟩: ∃b:UInt8,x=(b.toNat:Nat):=⟨UInt8.ofNat x.toNat,by rw [UInt8.toNat_ofNat'];omega⟩;obtain ⟨n,rfl⟩:=Int.eq_ofNat_of_zero_le hn.1;simp (disch:=omega) only [go_sem,seval];refine cD ?_ ?_<;>intro h9<;>simp (disch:=omega) only [Sh.out h9,go_sem,seval]
          ·exact ⟨_,[],wk,_,_,bad,rfl,rfl⟩
          ·exact ⟨(k+n+1,l++ [b]),⟨by simp only;omega,by simp;omega⟩,by simp only;omega,Weak.mk (by simp (disch:=omega) only [app,Int.natCast_add,List.length_append,List.length_cons,List.length_nil,go_sem,seval])⟩
         ·exact ⟨(k+1,l++ [nth r k]),⟨by simp only;omega,by simp;omega⟩,by simp only;omega,Weak.mk (by simp (disch:=omega) only [app,List.length_append,List.length_cons,List.length_nil,go_sem,seval])⟩
     ·refine Zr (Weak.fz (o:=0) (by rfl)) ?_;refine Zd [] _ _ _ _ ?_;simp (disch:=omega) only [List.map_cons,List.map_nil,List.set_cons_succ,List.set_cons_zero,BY,go_sem,seval];exact ⟨_,[],wk,_,_,⟨l,0,rfl,rfl⟩,rfl,rfl⟩
theorem NV (s:List UInt8) (hs:s.length<=1048576):ACalls Tryz.prog 92 [.p (.str s)] [] fun y H'=> ∃a,(∃n:Nat,PartR s n/\a= .int .i64 (n:Nat))/\y= .p a/\H'= []:=by
 by_cases hq:0<s.length/\(nth s 0).toNat=34
 ·obtain ⟨hl,h34⟩:=hq;refine Zg [] Tryz.func92 rfl O0 ?_;simp (disch:=omega) only [Tryz.f92,go_sem,seval];refine gT ?_ ?_<;>intro h1<;>simp (disch:=omega) only [Sh.out h1,go_sem,seval]
  ·refine cD ?_ ?_<;>intro h2<;>simp (disch:=omega) only [Sh.out h2,go_sem,seval]
   ·refine pN (LG s hs) ?_;rintro _ ⟨n,hn,rfl⟩;simp (disch:=omega) only [go_sem,seval];refine Pe (pM (s.take n) (by rw [List.length_take];omega)) ?_;rintro _ _ ⟨t,e,rfl,rfl⟩;simp (disch:=omega) only [go_sem,seval];refine cD ?_ ?_<;>intro h3<;>simp (disch:=omega) only [Sh.out h3,go_sem,seval]
    ·exact ⟨_,[],wk,_,⟨0,⟨Za,fun h=>absurd h34 h⟩,rfl⟩,rfl,rfl⟩
    ·exact ⟨_,[],wk,_,⟨n,⟨hn,fun h=>absurd h34 h⟩,rfl⟩,rfl,rfl⟩
   ·omega
  ·simp at h1;subst h1;simp at hl
 ·refine (TL s hs hq).mono ?_;rintro y H' ⟨rfl,rfl⟩;exact ⟨_,⟨Wk s,⟨Lr s,fun _=>rfl⟩,rfl⟩,rfl,rfl⟩
theorem Mf (s:List UInt8) (hs:s.length<=1048576):ACalls Tryz.prog 45 [.p (.str s)] [] fun y H'=> ∃o,Wds s o/\y=W5 o/\H'= []:=by
 refine Zg [7,12] Tryz.func45 rfl lL ?_;simp (disch:=omega) only [Tryz.f45,go_sem,seval]
 refine ZH [7,12] [] (fun q:List UInt8×List (List UInt8)=> [(0,.p (.str q.1)),(4,.sl 0 0 q.2.length q.2.length)]) (fun q=> [.elems 1 (q.2.map Ua)])
  (fun q=>q.2.length+q.1.length<=s.length/\ ∀z,Wds q.1 z->Wds s (z.map fun r=>q.2++r)) (fun q=>q.1.length) (s,[]) Zb (Weak.ofNil 4 1 rfl Zb (Weak.mk ?_)) ?_
 ·simp (disch:=omega) only [List.map_nil,List.length_nil,go_sem,seval]
 ·rintro ⟨r,o⟩ ⟨h3,h5⟩;simp only at h3 h5;simp (disch:=omega) only [go_sem,seval]
  have hrl:r= []\/0<r.length:=by cases r<;>simp
  rcases hrl with he | hrl
  ·subst he;refine cD ?_ ?_<;>intro h6<;>simp (disch:=omega) only [Sh.out h6,go_sem,seval]
   ·simp at h6
   ·refine Zr (Weak.fz (o:=0) (by rfl)) ?_;refine Zd [] _ _ _ _ ?_;simp (disch:=omega) only [List.map_cons,List.map_nil,List.set_cons_succ,List.set_cons_zero,go_sem,seval];exact ⟨W5 (some o),[],Weak.mk (by simp (disch:=omega) only [W5,go_sem,seval]),_,by simpa using h5 _ .nil,rfl,rfl⟩
  ·refine cD ?_ ?_<;>intro h6<;>simp (disch:=omega) only [Sh.out h6,go_sem,seval]
   ·have hne:r≠ []:=List.length_pos_iff.1 hrl;refine pN (NV r Za) ?_;rintro _ ⟨k,hp,rfl⟩;have hkl:=hp.1;simp (disch:=omega) only [go_sem,seval];refine cD ?_ ?_<;>intro h7<;>simp (disch:=omega) only [Sh.out h7,go_sem,seval]
    ·have h7':k=0:=Za
     subst h7';exact ⟨W5 none,[],Weak.mk (by simp (disch:=omega) only [W5,go_sem,seval]),_,h5 _ (.bad r hne hp),rfl,rfl⟩
    ·have h7':0<k:=Za
     refine cD ?_ ?_<;>intro h8<;>simp (disch:=omega) only [Sh.out h8,go_sem,seval]
     ·have h8':k=r.length:=Za
      subst h8';refine Zq [] (fun _:Unit=> [(2,.sl 0 0 (o++ [r]).length (o++ [r]).length),(3,.p (.int .i64 0))]) (fun _=> [.elems 1 ((o++ [r]).map Ua)]) (fun _=>True) ?_ ?_
      ·simp (disch:=omega) only [go_sem,seval];exact ⟨(),Weak.mk (by simp (disch:=omega) only [List.map_append,List.map_cons,List.map_nil,List.length_append,List.length_cons,List.length_nil,go_sem,seval])⟩
      ·intro _ _;refine Zr (Weak.fz (o:=0) (by rfl)) ?_;refine Zd [] _ _ _ _ ?_;simp (disch:=omega) only [List.map_cons,List.map_nil,List.set_cons_succ,List.set_cons_zero,go_sem,seval];exact ⟨W5 (some (o++ [r])),[],Weak.mk (by simp (disch:=omega) only [W5,List.map_append,List.map_cons,List.map_nil,go_sem,seval]),_,h5 _ (.whole r hne hp),rfl,rfl⟩
     ·have h8': ¬k=r.length:=Za
      have hk:k<r.length:=Za
      refine gF ?_ ?_<;>intro h9<;>simp (disch:=omega) only [Sh.out h9,go_sem,seval]
      ·exact ⟨W5 none,[],Weak.mk (by simp (disch:=omega) only [W5,go_sem,seval]),_,h5 _ (.bad2 r k hp h7' hk (.inl Za)),rfl,rfl⟩
      ·refine cD ?_ ?_<;>intro h10<;>simp (disch:=omega) only [Sh.out h10,go_sem,seval]
       ·exact ⟨W5 none,[],Weak.mk (by simp (disch:=omega) only [W5,go_sem,seval]),_,h5 _ (.bad2 r k hp h7' hk (.inr Za)),rfl,rfl⟩
       ·refine ⟨(r.drop (k+1),o++ [r.take k]),⟨?_,?_⟩,?_,Weak.mk ?_⟩
        ·simp only [List.length_append,List.length_drop,List.length_cons,List.length_nil];omega
        ·intro z hz;have:=h5 _ (.cons r k z hp h7' hk Za Za hz)
         cases z<;>simpa using this
        ·simp only [List.length_drop];omega
        ·simp (disch:=omega) only [List.map_append,List.map_cons,List.map_nil,List.length_append,List.length_cons,List.length_nil,go_sem,seval];rw [List.take_length]
   ·exact absurd (List.length_pos_iff.1 hrl) (by simpa using h6)
theorem yG {g:FuncId} {args:List V} {s:List UInt8} {H:List AM.Obj} {K:V->List AM.Obj->Prop} (h:ACalls Tryz.prog g args [] fun y H'=> ∃o,Wds s o/\y=W5 o/\H'= []) (k: ∀o,Wds s o->K (W5 o) H) (ha:ZE 0 args=true:=by rfl):ACalls Tryz.prog g args H K :=
 (h.behind ha H).mono fun x H' hq=>by
  obtain ⟨y,H1,⟨o,hr,rfl,rfl⟩,rfl,rfl⟩:=hq
  cases o with
  | none=>simpa [Vb,Wf,W5] using k none hr
  | some l=>simpa [Vb,Wf,W5] using k (some l) hr
end Go.Proofs.YtmbelkfkhclnkaaGreatDoor.K
