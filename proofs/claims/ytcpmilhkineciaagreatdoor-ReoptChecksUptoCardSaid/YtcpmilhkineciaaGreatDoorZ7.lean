/- Declarations that the closing texts need, part 7: joined by tools/slim.py. -/
import Derived.Test.YtcpmilhkineciaaGreatDoorZ6
import Derived.Lib.LazyBuf
set_option linter.unusedVariables false
set_option linter.unusedSimpArgs false
namespace Go.AM
open Go.RowKit
@[go_sem ↓] theorem Zps {P ds o l m fr H K} :Yo P ds (List.append (o::l) m) fr H K=Yo P ds (o::List.append l m) fr H K:=rfl
@[go_sem ↓] theorem Zqb {P ds m fr H K} :Yo P ds (List.append [] m) fr H K=Yo P ds m fr H K:=rfl
@[go_sem] theorem ZqW {α:Type} {x:α} {l m} :List.append (x::l) m=x::List.append l m:=rfl
@[go_sem] theorem Zsc {α:Type} {m:List α} :List.append [] m=m:=rfl
theorem Xu {P:Program} {ops:Array Oper} {Q:Exit->Act->World->Prop} {r:List Oper} : ∀(l:List Oper) (fr:List V) (H:List Obj) (K:List V->List Obj->Prop),Yo P (ops.toList.map (·.dst)) l fr H K ->
  ∀F ι a w,Rel F H ι w->Fr F H ι w fr a ->
   (∀fr' H' ι' a' w',K fr' H'->Good F H ι w H' ι' w'->Fr F H' ι' w' fr' a'->wpList P ops Q r a' w')->wpList P ops Q (l++r) a w
 | [],fr,H,K,h,F,ι,a,w,hr,hf,hq=>hq fr H ι a w h (Good.refl hr) hf
 | o::l,fr,H,K,h,F,ι,a,w,hr,hf,hq=>by
  have step: ∀ {fr:List V} {a:Act},Fr F H ι w fr a->Zq P o fr H (fun x H'=>Yo P (ops.toList.map (·.dst)) l (ptO fr o.dst x) H' K)->o.wp P a w (wpList P ops Q (l++r)) Q:=fun hf h =>
   YH h hr hf fun x H' ι' v w' hk g q=>Xu l _ H' K hk F ι' _ w' g.rel ((g.fr hf).put o.dst q)
    fun fr' H2 ι2 a' w2 k2 g2 f2=>hq fr' H2 ι2 a' w2 k2 (g.trans g2) f2
  simp only [Yo] at h;simp only [List.cons_append,wpList]
  split at h
  ·rename_i hg
   have hw:Region.wanted o (yielded ops a.tmps)=true:=by simp [Region.wanted,hg]
   rw [if_pos hw];exact .inl (step hf h)
  ·rename_i j b hg;unfold ZX at h
   split at h
   rotate_left
   ·rename_i hc;have hy:=Xj hf hc
    have hw: ¬(Region.wanted o (yielded ops a.tmps)=true):=by simp [Region.wanted,hg,hy]
    rw [if_neg hw];exact Xu l _ H K h F ι _ w hr (hf.put o.dst XB) hq
   ·exact h.elim
   rename_i c hc;have hy:=XP hf hc
   by_cases hcb:c=b
   ·have hw:Region.wanted o (yielded ops a.tmps)=true:=by simp [Region.wanted,hg,hy,hcb]
    rw [if_pos hw];exact .inl (step hf (h.1 hcb))
   ·have hw: ¬(Region.wanted o (yielded ops a.tmps)=true):=by simp [Region.wanted,hg,hy,hcb]
    rw [if_neg hw];exact Xu l _ H K (h.2 hcb) F ι _ w hr (hf.put o.dst XB) hq
theorem RV.refB {F H ι w x v} (h:RV F H ι w x v):refB H.length x=true:=by
 have lt: ∀ {o:Nat} {ob:Obj},H[o]? =some ob->o<H.length:=fun h=>(List.getElem?_eq_some_iff.1 h).1
 have all: ∀(l:List V),(∀(j:Nat) (c:V),l[j]? =some c->AM.refB H.length c=true)->ZJ H.length l=true:=fun l=>by
  induction l with
  | nil=>intro _;rfl
  | cons x l ih=>intro h;simp only [ZJ,Bool.and_eq_true];exact ⟨h 0 x rfl,ih fun j c hj=>h (j+1) c (by simpa using hj)⟩
 induction h with
 | p=>rfl
 | agg cs a hs _ ih=>exact all cs ih
 | fn f cs ds a e hs ht _ _ ih1 ih2=>simp only [AM.refB,Bool.and_eq_true];exact ⟨all cs ih1,all ds ih2⟩
 | tup cs a hs _ ih=>exact all cs ih
 | ptr o off b cs h hH=>simp [AM.refB,lt hH]
 | ep o i j tot b S xs h hH ht=>simp [AM.refB,lt hH]
 | slNil o S a h hH=>simp [AM.refB,lt hH]
 | sl o off len tot b S cap t xs c h hH=>simp [AM.refB,lt hH]
 | lp=>rfl
 | mp o b es h hH=>simp [AM.refB,lt hH]
 | mpD o v h=>simp [AM.refB,lt h]
 | bp o b T E r bs h hH=>simp [AM.refB,lt hH]
 | bpD o v h=>simp [AM.refB,lt h]
 | junk=>rfl
 | ptrD o off v h=>simp [AM.refB,lt h]
 | epD o i j tot v h=>simp [AM.refB,lt h]
 | slD o off len tot v h=>simp [AM.refB,lt h]
 | epS o i j tot v S xs h hne=>simp [AM.refB,lt h]
 | slS o off len tot v S xs h hne=>simp [AM.refB,lt h]
 | slC o tot b cap cs h hH hl hm=>simp [AM.refB,lt hH]
theorem Rel.refH {F H ι w} (h:Rel F H ι w):refH H.length H=true:=by
 rw [AM.refH,List.all_eq_true];intro ob hm;obtain ⟨o,ho⟩:=List.mem_iff_getElem?.1 hm
 cases ob with
 | cells cs =>
  obtain ⟨b,c,t,_,_,_,h4⟩:=h.cel o cs ho
  have: ∀(l:List V),(∀x∈l,refB H.length x=true)->ZJ H.length l=true:=fun l=>by
   induction l with
   | nil=>intro _;rfl
   | cons x l ih=>intro h;simp only [ZJ,Bool.and_eq_true];exact ⟨h x (by simp),ih fun y hy=>h y (by simp [hy])⟩
  exact this cs fun x hx=>by
   obtain ⟨j,hj⟩:=List.mem_iff_getElem?.1 hx;exact (h4 j x hj).refB
 | elems=>rfl
 | map=>rfl
 | bld T E r bs=>simpa using (List.getElem?_eq_some_iff.1 (h.bldr o T E r bs ho).2.1).1
 | dead=>rfl
def Vl (o:Oper):Oper:= { o with op:= .move (.tmp 1000000) }
def UW : Nat->List Oper->List Oper
 | _,[]=> []
 | 0,o::l=>Vl o::l
 | m+1,o::l=>o::UW m l
theorem WV : ∀(m:Nat) (l:List Oper) (i:Nat),(UW m l)[i]? =if i=m then (l[i]?).map Vl else l[i]?
 | m,[],i=>by cases m<;>simp [UW]
 | 0,o::l,0=>by simp [UW]
 | 0,o::l,i+1=>by simp [UW]
 | m+1,o::l,0=>by simp [UW]
 | m+1,o::l,i+1=>by simp [UW,WV m l i]
theorem Za8 : ∀(m:Nat) (l:List Oper),(UW m l).map (·.dst)=l.map (·.dst)
 | m,[]=>by cases m<;>simp [UW]
 | 0,o::l=>by simp [UW,Vl]
 | m+1,o::l=>by simp [UW,Za8 m l]
theorem ZbM : ∀(m:Nat) (l:List Oper),(UW m l).length=l.length
 | m,[]=>by cases m<;>simp [UW]
 | 0,o::l=>by simp [UW]
 | m+1,o::l=>by simp [UW,ZbM m l]
theorem ZdS : ∀ {fr:List V} {t:Nat},fr.length<=t->gt fr t= .junk
 | [],_,_=>rfl
 | _::_,0,h=>by simp at h
 | _::l,t+1,h=>by simp only [gt];exact ZdS (by simpa using h)
@[go_sem] theorem Zo6 {o:Oper} {l} :UW 0 (o::l)=Vl o::l:=rfl
@[go_sem] theorem ZpZ {o:Oper} {l m} :UW (m+1) (o::l)=o::UW m l:=rfl
@[go_sem] theorem ZrM {d op t ps af g} :Vl ⟨d,op,t,ps,af,g⟩=⟨d,.move (.tmp 1000000),t,ps,af,g⟩:=rfl
theorem ZjJ {fr:List V} {d:Option Nat} {x:V} :(ptO fr d x).length=fr.length:=by cases d<;>simp [ptO,Wo]
theorem ZjM {fr:List V} {d:Option Nat} {v x:V} {t:Nat} (h:(ptO fr d v)[t]? =some x):(d=some t/\x=v/\t<fr.length)\/(d≠some t/\fr[t]? =some x):=by
 cases d with
 | none=>exact .inr ⟨by simp,h⟩
 | some d =>
  simp only [ptO,Wo] at h;rw [List.getElem?_set] at h
  split at h
  ·rename_i e;subst e
   split at h
   ·rename_i hl;simp at h;exact .inl ⟨rfl,h.symm,hl⟩
   ·cases h
  ·rename_i e;exact .inr ⟨by simpa using e,h⟩
theorem VC {ds:List (Option Nat)} {vals:List V} {n:Nat} (hap:WX ds n=true) (hn:n<=ds.length) (hv:vals.length=n) {R:List Nat} {ls:List Nat} (hls: ∀j∈ls,j<n) {fr:List V} (hR: ∀t∈R,∀j,j<n->ds[j]? =some (some t)->j∈ls) :
  YZ R (ZV ds vals ls (ZU (ds.take n) fr)) (ZV ds vals (List.range n) (ZU (ds.take n) fr)):=fun t ht=>by
 apply JV
 by_cases hex: ∃j,j<n/\ds[j]? =some (some t)
 ·obtain ⟨j,hj,hdj⟩:=hex;obtain ⟨x,hx⟩: ∃x,vals[j]? =some x:=⟨vals[j]'(by omega),by simp [hv,hj]⟩
  by_cases hlt:t<fr.length
  ·rw [YW hap hdj hx hj ls _ hls (hR t ht j hj hdj) (by rw [ZP];exact hlt),YW hap hdj hx hj _ _ (fun k hk=>by simpa using hk) (by simpa using hj) (by rw [ZP];exact hlt)]
  ·rw [List.getElem?_eq_none (by rw [ZY,ZP];omega),List.getElem?_eq_none (by rw [ZY,ZP];omega)]
 ·have hno: ∀j,j<n->ds[j]? ≠some (some t):=fun j hj e=>hex ⟨j,hj,e⟩;rw [Ym ls _ (fun j hj=>hno j (hls j hj)),Ym _ _ (fun j hj=>hno j (by simpa using hj))]
def VP : List Nat->List Oper->List Oper
 | [],l=>l
 | m::ms,l=>VP ms (UW m l)
theorem Je : ∀(ms:List Nat) (l:List Oper),(VP ms l).map (·.dst)=l.map (·.dst)
 | [],_=>rfl
 | m::ms,l=>by rw [VP,Je ms,Za8]
theorem Q5 : ∀(ms:List Nat) (l:List Oper),(VP ms l).length=l.length
 | [],_=>rfl
 | m::ms,l=>by rw [VP,Q5 ms,ZbM]
theorem V8 : ∀(ms:List Nat) (l:List Oper) (i:Nat),i ∉ ms->(VP ms l)[i]? =l[i]?
 | [],_,_,_=>rfl
 | m::ms,l,i,h=>by
  simp at h;rw [VP,V8 ms _ i h.2,WV,if_neg h.1]
theorem Ja : ∀(ms:List Nat) (l:List Oper) (i:Nat) (o:Oper),i∈ms->l[i]? =some o->(VP ms l)[i]? =some (Vl o)
 | [],_,_,_,h,_=>by cases h
 | m::ms,l,i,o,h,ho=>by
  rw [VP]
  by_cases hi:i∈ms
  ·by_cases e:i=m
   ·subst e;have:=Ja ms (UW i l) i (Vl o) hi (by rw [WV,if_pos rfl,ho];rfl);rw [this];rfl
   ·exact Ja ms (UW m l) i o hi (by rw [WV,if_neg e];exact ho)
  ·have e:i=m:=by
    rcases List.mem_cons.1 h with e | e
    ·exact e
    ·exact absurd e hi
   subst e;rw [V8 ms _ _ hi,WV,if_pos rfl,ho];rfl
def VY (l:List Oper) (n:Nat) (ms:List Nat):Bool :=
 (ms.all fun m=>decide (m<n)&&match l[m]? with
  | some o=>o.guard.isNone&&(opR o.op).all fun t=>(List.range n).all fun j=>match (l.map (·.dst))[j]? with
    | some (some d)=>decide (d≠t)||(Zw m o).contains j
    | _=>true
  | none=>false)&&((List.range (ms.length-1)).all fun s=>match ms[s]?,ms[s+1]? with
   | some a,some b=>match l[b]? with | some o=>(Zw b o).contains a | none=>false
   | _,_=>false)&&(List.range ms.length).all fun s=>(List.range ms.length).all fun t=>decide (s=t)||decide (ms[s]? ≠ms[t]?)
def Z0 : List Oper->Nat->Oper
 | [],_=>default
 | o::_,0=>o
 | _::l,n+1=>Z0 l n
theorem UO : ∀(l:List Oper) (n:Nat),Z0 l n=l.getD n default
 | [],n=>by simp [Z0]
 | o::l,0=>rfl
 | o::l,n+1=>by simp [Z0,UO l n]
@[go_sem] theorem ZnJ {o:Oper} {l} :Z0 (o::l) 0=o:=rfl
@[go_sem] theorem Zpx {o:Oper} {l n} :Z0 (o::l) (n+1)=Z0 l n:=rfl
@[go_sem] theorem Zud {l:List Oper} :VP [] l=l:=rfl
@[go_sem] theorem Zmj {m ms} {l:List Oper} :VP (m::ms) l=VP ms (UW m l):=rfl
theorem JZ {P:Program} {H:List Obj} {f azs} {a b:PV} {B:V->Prop} {t} (h:ACalls P f azs [] fun x H'=>x= .tup [.p a,.p b]/\H'= []) (k:B (.tup [.p a,.p b])) (ha:ZJ 0 azs=true:=by rfl) :
  exq (fun y=>ACalls P f azs H (ZB (ZB (fun x H'=>x=y/\H'=H) ⟨⟩) ⟨⟩)) (ZB B t) :=
 ⟨.tup [.p a,.p b],(h.behind ha H).mono fun x H' hq=>by
  obtain ⟨y,H1,⟨rfl,rfl⟩,rfl,rfl⟩:=hq
  simp [shV,shVs,ZB],k⟩
@[go_sem] theorem ZsZ {H:List Obj} {n cs cs'} :wkV H n (.tup cs) (.tup cs')=(cs'=cs/\ZJ n cs=true):=by simp [wkV,frz,refB]
def eII (p:Int×Int):PV×PV:=(.int .i64 p.1,.int .i64 p.2)
def ZmN (P:Program) (t:TypeId):Option (TypeDesc×Option PV):=match P.underlying t with
 | some (.map kt et)=>(P.underlying kt).map fun d=>(d,VL P et)
 | _=>none
def mix (l:List (Int×Int)) (k:Int):Option Nat:=l.findIdx? fun p=>decide (k=p.1)
def Qo (l:List (Int×Int)) (k:Int):Int:=match mix l k with | some i=>((l[i]?).map (·.2)).getD 0 | none=>0
theorem Ut (k:Int): ∀(l:List (Int×Int)) (n:Nat),V0 (.int .i64 k) (l.map eII) n=(mix l k).map fun i=>(n+i,.int .i64 (((l[i]?).map (·.2)).getD 0))
 | [],n=>by simp [V0,mix]
 | p::l,n=>by
  have ih:=Ut k l (n+1);simp only [List.map_cons,V0,eII,keq]
  by_cases h:k=p.1
  ·simp [h,mix,List.findIdx?_cons]
  ·simp only [h,decide_false,Bool.false_eq_true,if_false];rw [ih];simp only [mix,List.findIdx?_cons,h,decide_false,Bool.false_eq_true,if_false]
   cases l.findIdx? (fun p=>decide (k=p.1)) with
   | none=>rfl
   | some i=>simp;omega
theorem Zbi {P t d z} (h:ZmN P t=some (d,z)): ∃kt et,P.underlying t=some (.map kt et)/\P.underlying kt=some d/\VL P et=z:=by
 unfold ZmN at h
 split at h
 ·rename_i kt et hu;simp only [Option.map_eq_some_iff,Prod.mk.injEq] at h;obtain ⟨d',h1,rfl,h2⟩:=h;exact ⟨kt,et,hu,h1,h2⟩
 ·cases h
theorem JA {P:Program} {H:List Obj} {kt:TypeId} {o:Nat} {l:List (Int×Int)} {k:Int} (hd:P.underlying kt=some (.int .i64)) (hH:oat H o= .map (l.map eII)):Zac P H kt (.int .i64 k) o=some (l.map eII):=by
 simp [Zac,hH,mkey,hd,eII,kpair]
theorem QK {l:List (Int×Int)} {k:Int} {i:Nat} (h:mix l k=some i): ∃v,l[i]? =some (k,v)/\Qo l k=v:=by
 have h0:=h;unfold mix at h;rw [List.findIdx?_eq_some_iff_getElem] at h;obtain ⟨h1,h2,_⟩:=h
 have h3:k=l[i].1:=by simpa using h2
 refine ⟨l[i].2,by simp [h1];rw [h3],?_⟩;simp [Qo,h0,h1]
section
variable {P : Program} {H : List Obj} {t : TypeId} {o : Nat} {l : List (Int × Int)} {k : Int} {K : V -> List Obj -> Prop}
theorem ZaU (hT:ZmN P t=some (.int .i64,some (.int .i64 0))) (hH:oat H o= .map (l.map eII)) (h:K (.p (.int .i64 (Qo l k))) H):mst (ZcO P H t (.mp o) (.p (.int .i64 k)) false) K:=by
 obtain ⟨kt,et,h1,h2,h3⟩:=Zbi hT;simp only [ZcO,h1,JA h2 hH,Option.bind_some,Ut,h3]
 cases hm:mix l k with
 | none =>
  have e:Qo l k=0:=by simp [Qo,hm]
  rw [e] at h;simp only [Option.map_none,Option.map_some,mst];exact h
 | some i =>
  have e:Qo l k=((l[i]?).map (·.2)).getD 0:=by simp [Qo,hm]
  rw [e] at h;simp only [Option.map_some,mst];exact h
theorem ZbU {i:Nat} {v:Int} (hH:oat H o= .map (l.map eII)) (hm:mix l k=some i) (h:(∀q,Qo (l.set i (k,v)) q=if q=k then v else Qo l q)->K .junk (H.set o (.map ((l.set i (k,v)).map eII)))):mst (Vk H (.mp o) (.p (.int .i64 (i:Nat))) (.p (.int .i64 v))) K:=by
 obtain ⟨u,q1,q2⟩:=QK hm;have hil:=(List.getElem?_eq_some_iff.1 q1).1
 have e1:(l.map eII)[i]? =some (eII (k,u)):=by rw [List.getElem?_map,q1];rfl
 simp only [Vk,hH,Int.natCast_nonneg,if_true,Int.toNat_natCast,e1,mst]
 have e2:(l.map eII).set i ((eII (k,u)).1,.int .i64 v)=(l.set i (k,v)).map eII:=by rw [List.map_set];rfl
 rw [e2];refine h fun q=> ?_
 have hkeys: ∀j:Nat,((l.set i (k,v))[j]?).map Prod.fst=(l[j]?).map Prod.fst:=fun j=>by
  rw [List.getElem?_set]
  split
  ·rename_i e;subst e;rw [q1];simp [hil]
  ·rfl
 have hmix: ∀q,mix (l.set i (k,v)) q=mix l q:=fun q=>by
  have key: ∀(a b:List (Int×Int)),a.map Prod.fst=b.map Prod.fst->mix a q=mix b q:=fun a b hab=>by
   have e: ∀c:List (Int×Int),mix c q=(c.map Prod.fst).findIdx? fun z=>decide (q=z):=fun c=>by
    rw [List.findIdx?_map];rfl
   rw [e,e,hab]
  refine key _ _ (List.ext_getElem? fun j=> ?_);rw [List.getElem?_map,List.getElem?_map];exact hkeys j
 unfold Qo;rw [hmix]
 by_cases hq:q=k
 ·subst hq;rw [hm,if_pos rfl];simp [hil]
 ·rw [if_neg hq]
  cases hc:mix l q with
  | none=>rfl
  | some j =>
   have hji:i≠j:=fun e=>by
    subst e;obtain ⟨u2,p1,_⟩:=QK hc;rw [q1] at p1;simp at p1;exact hq p1.1.symm
   simp only;rw [List.getElem?_set_ne hji]
end
end Go.AM
