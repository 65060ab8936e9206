/- Declarations that the closing texts need, part 7: joined by tools/slim.py. -/
import Derived.Test.YtgknhiknjimdpaaGreatDoorZ6
import Derived.Lib.LazyBuf
set_option linter.unusedVariables false
set_option linter.unusedSimpArgs false
namespace Go.AM
open Go.RowKit
@[go_sem ↓] theorem ZdU {P ds o l m fr H K} :X0 P ds (List.append (o::l) m) fr H K=X0 P ds (o::List.append l m) fr H K:=rfl
@[go_sem ↓] theorem ZfD {P ds m fr H K} :X0 P ds (List.append [] m) fr H K=X0 P ds m fr H K:=rfl
@[go_sem] theorem Zen {α:Type} {x:α} {l m} :List.append (x::l) m=x::List.append l m:=rfl
@[go_sem] theorem ZhB {α:Type} {m:List α} :List.append [] m=m:=rfl
theorem RV.refB {F H ι w x v} (h:RV F H ι w x v):refB H.length x=true:=by
 have lt: ∀ {o:Nat} {ob:Obj},H[o]? =some ob->o<H.length:=fun h=>(List.getElem?_eq_some_iff.1 h).1
 have all: ∀(l:List V),(∀(j:Nat) (c:V),l[j]? =some c->AM.refB H.length c=true)->ZS H.length l=true:=fun l=>by
  induction l with
  | nil=>intro _;rfl
  | cons x l ih=>intro h;simp only [ZS,Bool.and_eq_true];exact ⟨h 0 x rfl,ih fun j c hj=>h (j+1) c (by simpa using hj)⟩
 induction h with
 | p=>rfl
 | agg cs a hs _ ih=>exact all cs ih
 | fn f cs ds a e hs ht _ _ ih1 ih2=>simp only [AM.refB,Bool.and_eq_true];exact ⟨all cs ih1,all ds ih2⟩
 | tup cs a hs _ ih=>exact all cs ih
 | ptr o off b cs h hH=>simp [AM.refB,lt hH]
 | ep o i j tot b S xs h hH ht=>simp [AM.refB,lt hH]
 | slNil o S a h hH=>simp [AM.refB,lt hH]
 | sl o off len tot b S cap t xs c h hH=>simp [AM.refB,lt hH]
 | lp=>rfl
 | mp o b es h hH=>simp [AM.refB,lt hH]
 | mpD o v h=>simp [AM.refB,lt h]
 | bp o b T E r bs h hH=>simp [AM.refB,lt hH]
 | bpD o v h=>simp [AM.refB,lt h]
 | junk=>rfl
 | ptrD o off v h=>simp [AM.refB,lt h]
 | epD o i j tot v h=>simp [AM.refB,lt h]
 | slD o off len tot v h=>simp [AM.refB,lt h]
 | epS o i j tot v S xs h hne=>simp [AM.refB,lt h]
 | slS o off len tot v S xs h hne=>simp [AM.refB,lt h]
 | slC o tot b cap cs h hH hl hm=>simp [AM.refB,lt hH]
theorem Rel.refH {F H ι w} (h:Rel F H ι w):refH H.length H=true:=by
 rw [AM.refH,List.all_eq_true];intro ob hm;obtain ⟨o,ho⟩:=List.mem_iff_getElem?.1 hm
 cases ob with
 | cells cs =>
  obtain ⟨b,c,t,_,_,_,h4⟩:=h.cel o cs ho
  have: ∀(l:List V),(∀x∈l,refB H.length x=true)->ZS H.length l=true:=fun l=>by
   induction l with
   | nil=>intro _;rfl
   | cons x l ih=>intro h;simp only [ZS,Bool.and_eq_true];exact ⟨h x (by simp),ih fun y hy=>h y (by simp [hy])⟩
  exact this cs fun x hx=>by
   obtain ⟨j,hj⟩:=List.mem_iff_getElem?.1 hx;exact (h4 j x hj).refB
 | elems=>rfl
 | map=>rfl
 | bld T E r bs=>simpa using (List.getElem?_eq_some_iff.1 (h.bldr o T E r bs ho).2.1).1
 | dead=>rfl
def YH (o:Oper):Oper:= { o with op:= .move (.tmp 1000000) }
def Wx : Nat->List Oper->List Oper
 | _,[]=> []
 | 0,o::l=>YH o::l
 | m+1,o::l=>o::Wx m l
theorem Yt : ∀(m:Nat) (l:List Oper) (i:Nat),(Wx m l)[i]? =if i=m then (l[i]?).map YH else l[i]?
 | m,[],i=>by cases m<;>simp [Wx]
 | 0,o::l,0=>by simp [Wx]
 | 0,o::l,i+1=>by simp [Wx]
 | m+1,o::l,0=>by simp [Wx]
 | m+1,o::l,i+1=>by simp [Wx,Yt m l i]
theorem U4 : ∀(m:Nat) (l:List Oper),(Wx m l).map (·.dst)=l.map (·.dst)
 | m,[]=>by cases m<;>simp [Wx]
 | 0,o::l=>by simp [Wx,YH]
 | m+1,o::l=>by simp [Wx,U4 m l]
theorem Qb : ∀(m:Nat) (l:List Oper),(Wx m l).length=l.length
 | m,[]=>by cases m<;>simp [Wx]
 | 0,o::l=>by simp [Wx]
 | m+1,o::l=>by simp [Wx,Qb m l]
theorem Kb : ∀ {fr:List V} {t:Nat},fr.length<=t->gt fr t= .junk
 | [],_,_=>rfl
 | _::_,0,h=>by simp at h
 | _::l,t+1,h=>by simp only [gt];exact Kb (by simpa using h)
@[go_sem] theorem ZdM {o:Oper} {l} :Wx 0 (o::l)=YH o::l:=rfl
@[go_sem] theorem ZfC {o:Oper} {l m} :Wx (m+1) (o::l)=o::Wx m l:=rfl
@[go_sem] theorem Zf4 {d op t ps af g} :YH ⟨d,op,t,ps,af,g⟩=⟨d,.move (.tmp 1000000),t,ps,af,g⟩:=rfl
theorem ZbU {fr:List V} {d:Option Nat} {x:V} :(ptO fr d x).length=fr.length:=by cases d<;>simp [ptO,X4]
theorem Zcu {fr:List V} {d:Option Nat} {v x:V} {t:Nat} (h:(ptO fr d v)[t]? =some x):(d=some t/\x=v/\t<fr.length)\/(d≠some t/\fr[t]? =some x):=by
 cases d with
 | none=>exact .inr ⟨by simp,h⟩
 | some d =>
  simp only [ptO,X4] at h;rw [List.getElem?_set] at h
  split at h
  ·rename_i e;subst e
   split at h
   ·rename_i hl;simp at h;exact .inl ⟨rfl,h.symm,hl⟩
   ·cases h
  ·rename_i e;exact .inr ⟨by simpa using e,h⟩
theorem YE {ds:List (Option Nat)} {vals:List V} {n:Nat} (hap:Yx ds n=true) (hn:n<=ds.length) (hv:vals.length=n) {R:List Nat} {ls:List Nat} (hls: ∀j∈ls,j<n) {fr:List V} (hR: ∀t∈R,∀j,j<n->ds[j]? =some (some t)->j∈ls) :
  YS R (ZF ds vals ls (Zy (ds.take n) fr)) (ZF ds vals (List.range n) (Zy (ds.take n) fr)):=fun t ht=>by
 apply Uk
 by_cases hex: ∃j,j<n/\ds[j]? =some (some t)
 ·obtain ⟨j,hj,hdj⟩:=hex;obtain ⟨x,hx⟩: ∃x,vals[j]? =some x:=⟨vals[j]'(by omega),by simp [hv,hj]⟩
  by_cases hlt:t<fr.length
  ·rw [XM hap hdj hx hj ls _ hls (hR t ht j hj hdj) (by rw [Zx];exact hlt),XM hap hdj hx hj _ _ (fun k hk=>by simpa using hk) (by simpa using hj) (by rw [Zx];exact hlt)]
  ·rw [List.getElem?_eq_none (by rw [ZC,Zx];omega),List.getElem?_eq_none (by rw [ZC,Zx];omega)]
 ·have hno: ∀j,j<n->ds[j]? ≠some (some t):=fun j hj e=>hex ⟨j,hj,e⟩;rw [Xl ls _ (fun j hj=>hno j (hls j hj)),Xl _ _ (fun j hj=>hno j (by simpa using hj))]
def YK : List Nat->List Oper->List Oper
 | [],l=>l
 | m::ms,l=>YK ms (Wx m l)
theorem Vh : ∀(ms:List Nat) (l:List Oper),(YK ms l).map (·.dst)=l.map (·.dst)
 | [],_=>rfl
 | m::ms,l=>by rw [YK,Vh ms,U4]
theorem Va : ∀(ms:List Nat) (l:List Oper),(YK ms l).length=l.length
 | [],_=>rfl
 | m::ms,l=>by rw [YK,Va ms,Qb]
theorem YU : ∀(ms:List Nat) (l:List Oper) (i:Nat),i ∉ ms->(YK ms l)[i]? =l[i]?
 | [],_,_,_=>rfl
 | m::ms,l,i,h=>by
  simp at h;rw [YK,YU ms _ i h.2,Yt,if_neg h.1]
theorem Vc : ∀(ms:List Nat) (l:List Oper) (i:Nat) (o:Oper),i∈ms->l[i]? =some o->(YK ms l)[i]? =some (YH o)
 | [],_,_,_,h,_=>by cases h
 | m::ms,l,i,o,h,ho=>by
  rw [YK]
  by_cases hi:i∈ms
  ·by_cases e:i=m
   ·subst e;have:=Vc ms (Wx i l) i (YH o) hi (by rw [Yt,if_pos rfl,ho];rfl);rw [this];rfl
   ·exact Vc ms (Wx m l) i o hi (by rw [Yt,if_neg e];exact ho)
  ·have e:i=m:=by
    rcases List.mem_cons.1 h with e | e
    ·exact e
    ·exact absurd e hi
   subst e;rw [YU ms _ _ hi,Yt,if_pos rfl,ho];rfl
def ZK : List Oper->Nat->Oper
 | [],_=>default
 | o::_,0=>o
 | _::l,n+1=>ZK l n
theorem Wc : ∀(l:List Oper) (n:Nat),ZK l n=l.getD n default
 | [],n=>by simp [ZK]
 | o::l,0=>rfl
 | o::l,n+1=>by simp [ZK,Wc l n]
@[go_sem] theorem Zfs {o:Oper} {l} :ZK (o::l) 0=o:=rfl
@[go_sem] theorem Zfr {o:Oper} {l n} :ZK (o::l) (n+1)=ZK l n:=rfl
@[go_sem] theorem ZgF {l:List Oper} :YK [] l=l:=rfl
@[go_sem] theorem ZdW {m ms} {l:List Oper} :YK (m::ms) l=YK ms (Wx m l):=rfl
end Go.AM
