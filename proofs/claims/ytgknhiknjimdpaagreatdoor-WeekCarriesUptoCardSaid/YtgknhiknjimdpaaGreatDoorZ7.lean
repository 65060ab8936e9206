/- Declarations that the closing texts need, part 7: joined by tools/slim.py. -/
import Derived.Test.YtgknhiknjimdpaaGreatDoorZ6
import Derived.Lib.LazyBuf
set_option linter.unusedVariables false
set_option linter.unusedSimpArgs false
namespace Go.AM
open Go.RowKit
@[go_sem ↓] theorem ZgS {P ds o l m fr H K} :XK P ds (List.append (o::l) m) fr H K=XK P ds (o::List.append l m) fr H K:=rfl
@[go_sem ↓] theorem ZfO {P ds m fr H K} :XK P ds (List.append [] m) fr H K=XK P ds m fr H K:=rfl
@[go_sem] theorem Zh7 {α:Type} {x:α} {l m} :List.append (x::l) m=x::List.append l m:=rfl
@[go_sem] theorem ZkB {α:Type} {m:List α} :List.append [] m=m:=rfl
theorem XP {P:Program} {ops:Array Oper} {Q:Exit->Act->World->Prop} {r:List Oper} : ∀(l:List Oper) (fr:List V) (H:List Obj) (K:List V->List Obj->Prop),XK P (ops.toList.map (·.dst)) l fr H K ->
  ∀F ι a w,Rel F H ι w->Fr F H ι w fr a ->
   (∀fr' H' ι' a' w',K fr' H'->Good F H ι w H' ι' w'->Fr F H' ι' w' fr' a'->wpList P ops Q r a' w')->wpList P ops Q (l++r) a w
 | [],fr,H,K,h,F,ι,a,w,hr,hf,hq=>hq fr H ι a w h (Good.refl hr) hf
 | o::l,fr,H,K,h,F,ι,a,w,hr,hf,hq=>by
  have step: ∀ {fr:List V} {a:Act},Fr F H ι w fr a->Zl P o fr H (fun x H'=>XK P (ops.toList.map (·.dst)) l (ptO fr o.dst x) H' K)->o.wp P a w (wpList P ops Q (l++r)) Q:=fun hf h =>
   Yg h hr hf fun x H' ι' v w' hk g q=>XP l _ H' K hk F ι' _ w' g.rel ((g.fr hf).put o.dst q)
    fun fr' H2 ι2 a' w2 k2 g2 f2=>hq fr' H2 ι2 a' w2 k2 (g.trans g2) f2
  simp only [XK] at h;simp only [List.cons_append,wpList]
  split at h
  ·rename_i hg
   have hw:Region.wanted o (yielded ops a.tmps)=true:=by simp [Region.wanted,hg]
   rw [if_pos hw];exact .inl (step hf h)
  ·rename_i j b hg;unfold ZK at h
   split at h
   rotate_left
   ·rename_i hc;have hy:=Z0 hf hc
    have hw: ¬(Region.wanted o (yielded ops a.tmps)=true):=by simp [Region.wanted,hg,hy]
    rw [if_neg hw];exact XP l _ H K h F ι _ w hr (hf.put o.dst Xh) hq
   ·exact h.elim
   rename_i c hc;have hy:=Xm hf hc
   by_cases hcb:c=b
   ·have hw:Region.wanted o (yielded ops a.tmps)=true:=by simp [Region.wanted,hg,hy,hcb]
    rw [if_pos hw];exact .inl (step hf (h.1 hcb))
   ·have hw: ¬(Region.wanted o (yielded ops a.tmps)=true):=by simp [Region.wanted,hg,hy,hcb]
    rw [if_neg hw];exact XP l _ H K (h.2 hcb) F ι _ w hr (hf.put o.dst Xh) hq
theorem RV.refB {F H ι w x v} (h:RV F H ι w x v):refB H.length x=true:=by
 have lt: ∀ {o:Nat} {ob:Obj},H[o]? =some ob->o<H.length:=fun h=>(List.getElem?_eq_some_iff.1 h).1
 have all: ∀(l:List V),(∀(j:Nat) (c:V),l[j]? =some c->AM.refB H.length c=true)->ZT H.length l=true:=fun l=>by
  induction l with
  | nil=>intro _;rfl
  | cons x l ih=>intro h;simp only [ZT,Bool.and_eq_true];exact ⟨h 0 x rfl,ih fun j c hj=>h (j+1) c (by simpa using hj)⟩
 induction h with
 | p=>rfl
 | agg cs a hs _ ih=>exact all cs ih
 | fn f cs ds a e hs ht _ _ ih1 ih2=>simp only [AM.refB,Bool.and_eq_true];exact ⟨all cs ih1,all ds ih2⟩
 | tup cs a hs _ ih=>exact all cs ih
 | ptr o off b cs h hH=>simp [AM.refB,lt hH]
 | ep o i j tot b S xs h hH ht=>simp [AM.refB,lt hH]
 | slNil o S a h hH=>simp [AM.refB,lt hH]
 | sl o off len tot b S cap t xs c h hH=>simp [AM.refB,lt hH]
 | lp=>rfl
 | mp o b es h hH=>simp [AM.refB,lt hH]
 | mpD o v h=>simp [AM.refB,lt h]
 | bp o b T E r bs h hH=>simp [AM.refB,lt hH]
 | bpD o v h=>simp [AM.refB,lt h]
 | junk=>rfl
 | ptrD o off v h=>simp [AM.refB,lt h]
 | epD o i j tot v h=>simp [AM.refB,lt h]
 | slD o off len tot v h=>simp [AM.refB,lt h]
 | epS o i j tot v S xs h hne=>simp [AM.refB,lt h]
 | slS o off len tot v S xs h hne=>simp [AM.refB,lt h]
 | slC o tot b cap cs h hH hl hm=>simp [AM.refB,lt hH]
theorem Rel.refH {F H ι w} (h:Rel F H ι w):refH H.length H=true:=by
 rw [AM.refH,List.all_eq_true];intro ob hm;obtain ⟨o,ho⟩:=List.mem_iff_getElem?.1 hm
 cases ob with
 | cells cs =>
  obtain ⟨b,c,t,_,_,_,h4⟩:=h.cel o cs ho
  have: ∀(l:List V),(∀x∈l,refB H.length x=true)->ZT H.length l=true:=fun l=>by
   induction l with
   | nil=>intro _;rfl
   | cons x l ih=>intro h;simp only [ZT,Bool.and_eq_true];exact ⟨h x (by simp),ih fun y hy=>h y (by simp [hy])⟩
  exact this cs fun x hx=>by
   obtain ⟨j,hj⟩:=List.mem_iff_getElem?.1 hx;exact (h4 j x hj).refB
 | elems=>rfl
 | map=>rfl
 | bld T E r bs=>simpa using (List.getElem?_eq_some_iff.1 (h.bldr o T E r bs ho).2.1).1
 | dead=>rfl
def Y6 (o:Oper):Oper:= { o with op:= .move (.tmp 1000000) }
def W1 : Nat->List Oper->List Oper
 | _,[]=> []
 | 0,o::l=>Y6 o::l
 | m+1,o::l=>o::W1 m l
theorem YL : ∀(m:Nat) (l:List Oper) (i:Nat),(W1 m l)[i]? =if i=m then (l[i]?).map Y6 else l[i]?
 | m,[],i=>by cases m<;>simp [W1]
 | 0,o::l,0=>by simp [W1]
 | 0,o::l,i+1=>by simp [W1]
 | m+1,o::l,0=>by simp [W1]
 | m+1,o::l,i+1=>by simp [W1,YL m l i]
theorem Q1 : ∀(m:Nat) (l:List Oper),(W1 m l).map (·.dst)=l.map (·.dst)
 | m,[]=>by cases m<;>simp [W1]
 | 0,o::l=>by simp [W1,Y6]
 | m+1,o::l=>by simp [W1,Q1 m l]
theorem Jh : ∀(m:Nat) (l:List Oper),(W1 m l).length=l.length
 | m,[]=>by cases m<;>simp [W1]
 | 0,o::l=>by simp [W1]
 | m+1,o::l=>by simp [W1,Jh m l]
theorem KO : ∀ {fr:List V} {t:Nat},fr.length<=t->gt fr t= .junk
 | [],_,_=>rfl
 | _::_,0,h=>by simp at h
 | _::l,t+1,h=>by simp only [gt];exact KO (by simpa using h)
@[go_sem] theorem ZgX {o:Oper} {l} :W1 0 (o::l)=Y6 o::l:=rfl
@[go_sem] theorem ZhQ {o:Oper} {l m} :W1 (m+1) (o::l)=o::W1 m l:=rfl
@[go_sem] theorem Zi1 {d op t ps af g} :Y6 ⟨d,op,t,ps,af,g⟩=⟨d,.move (.tmp 1000000),t,ps,af,g⟩:=rfl
theorem Zd5 {fr:List V} {d:Option Nat} {x:V} :(ptO fr d x).length=fr.length:=by cases d<;>simp [ptO,Yj]
theorem ZdC {fr:List V} {d:Option Nat} {v x:V} {t:Nat} (h:(ptO fr d v)[t]? =some x):(d=some t/\x=v/\t<fr.length)\/(d≠some t/\fr[t]? =some x):=by
 cases d with
 | none=>exact .inr ⟨by simp,h⟩
 | some d =>
  simp only [ptO,Yj] at h;rw [List.getElem?_set] at h
  split at h
  ·rename_i e;subst e
   split at h
   ·rename_i hl;simp at h;exact .inl ⟨rfl,h.symm,hl⟩
   ·cases h
  ·rename_i e;exact .inr ⟨by simpa using e,h⟩
theorem Y4 {ds:List (Option Nat)} {vals:List V} {n:Nat} (hap:YQ ds n=true) (hn:n<=ds.length) (hv:vals.length=n) {R:List Nat} {ls:List Nat} (hls: ∀j∈ls,j<n) {fr:List V} (hR: ∀t∈R,∀j,j<n->ds[j]? =some (some t)->j∈ls) :
  Yp R (Zy ds vals ls (ZE (ds.take n) fr)) (Zy ds vals (List.range n) (ZE (ds.take n) fr)):=fun t ht=>by
 apply UQ
 by_cases hex: ∃j,j<n/\ds[j]? =some (some t)
 ·obtain ⟨j,hj,hdj⟩:=hex;obtain ⟨x,hx⟩: ∃x,vals[j]? =some x:=⟨vals[j]'(by omega),by simp [hv,hj]⟩
  by_cases hlt:t<fr.length
  ·rw [XW hap hdj hx hj ls _ hls (hR t ht j hj hdj) (by rw [ZB];exact hlt),XW hap hdj hx hj _ _ (fun k hk=>by simpa using hk) (by simpa using hj) (by rw [ZB];exact hlt)]
  ·rw [List.getElem?_eq_none (by rw [ZG,ZB];omega),List.getElem?_eq_none (by rw [ZG,ZB];omega)]
 ·have hno: ∀j,j<n->ds[j]? ≠some (some t):=fun j hj e=>hex ⟨j,hj,e⟩;rw [Xy ls _ (fun j hj=>hno j (hls j hj)),Xy _ _ (fun j hj=>hno j (by simpa using hj))]
def We : List Nat->List Oper->List Oper
 | [],l=>l
 | m::ms,l=>We ms (W1 m l)
theorem VT : ∀(ms:List Nat) (l:List Oper),(We ms l).map (·.dst)=l.map (·.dst)
 | [],_=>rfl
 | m::ms,l=>by rw [We,VT ms,Q1]
theorem VK : ∀(ms:List Nat) (l:List Oper),(We ms l).length=l.length
 | [],_=>rfl
 | m::ms,l=>by rw [We,VK ms,Jh]
theorem Wx : ∀(ms:List Nat) (l:List Oper) (i:Nat),i ∉ ms->(We ms l)[i]? =l[i]?
 | [],_,_,_=>rfl
 | m::ms,l,i,h=>by
  simp at h;rw [We,Wx ms _ i h.2,YL,if_neg h.1]
theorem V5 : ∀(ms:List Nat) (l:List Oper) (i:Nat) (o:Oper),i∈ms->l[i]? =some o->(We ms l)[i]? =some (Y6 o)
 | [],_,_,_,h,_=>by cases h
 | m::ms,l,i,o,h,ho=>by
  rw [We]
  by_cases hi:i∈ms
  ·by_cases e:i=m
   ·subst e;have:=V5 ms (W1 i l) i (Y6 o) hi (by rw [YL,if_pos rfl,ho];rfl);rw [this];rfl
   ·exact V5 ms (W1 m l) i o hi (by rw [YL,if_neg e];exact ho)
  ·have e:i=m:=by
    rcases List.mem_cons.1 h with e | e
    ·exact e
    ·exact absurd e hi
   subst e;rw [Wx ms _ _ hi,YL,if_pos rfl,ho];rfl
def ZN : List Oper->Nat->Oper
 | [],_=>default
 | o::_,0=>o
 | _::l,n+1=>ZN l n
theorem WU : ∀(l:List Oper) (n:Nat),ZN l n=l.getD n default
 | [],n=>by simp [ZN]
 | o::l,0=>rfl
 | o::l,n+1=>by simp [ZN,WU l n]
@[go_sem] theorem ZfW {o:Oper} {l} :ZN (o::l) 0=o:=rfl
@[go_sem] theorem Zij {o:Oper} {l n} :ZN (o::l) (n+1)=ZN l n:=rfl
@[go_sem] theorem ZiD {l:List Oper} :We [] l=l:=rfl
@[go_sem] theorem ZhZ {m ms} {l:List Oper} :We (m::ms) l=We ms (W1 m l):=rfl
end Go.AM
