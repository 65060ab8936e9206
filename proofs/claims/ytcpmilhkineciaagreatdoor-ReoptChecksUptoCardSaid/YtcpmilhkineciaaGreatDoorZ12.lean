/- Declarations that the closing texts need, part 12: joined by tools/slim.py. -/
import Derived.Test.YtcpmilhkineciaaGreatDoorZ11
import Derived.LoopN
set_option linter.unusedVariables false
set_option linter.unusedSimpArgs false
namespace Go.AM
open Go.RowKit
mutual
def PV.eqb : PV->PV->Bool
 | .int k n,.int k' n'=>decide (k=k')&&decide (n=n')
 | .bool b,.bool b'=>b==b'
 | .str s,.str s'=>decide (s=s')
 | .list c l,.list c' l'=>c==c'&&PV.eqbs l l'
 | .agg l,.agg l'=>PV.eqbs l l'
 | .nilp,.nilp=>true
 | .nili,.nili=>true
 | .nilf,.nilf=>true
 | .nilm,.nilm=>true
 | .fn f,.fn f'=>decide (f=f')
 | _,_=>false
def PV.eqbs : List PV->List PV->Bool
 | [],[]=>true
 | x::l,y::l'=>PV.eqb x y&&PV.eqbs l l'
 | _,_=>false
end
mutual
theorem PV.eqb_ok : ∀x y:PV,PV.eqb x y=true->x=y:=fun x y h=>by
 cases x<;>cases y<;>simp only [PV.eqb,Bool.and_eq_true,decide_eq_true_eq,beq_iff_eq,Bool.false_eq_true] at h
 ·obtain ⟨rfl,rfl⟩:=h;rfl
 ·subst h;rfl
 ·subst h;rfl
 ·obtain ⟨rfl,h⟩:=h;rw [PV.eqbs_ok _ _ h]
 ·rw [PV.eqbs_ok _ _ h]
 ·rfl
 ·rfl
 ·rfl
 ·rfl
 ·subst h;rfl
theorem PV.eqbs_ok : ∀x y:List PV,PV.eqbs x y=true->x=y
 | [],[],_=>rfl
 | x::l,y::l',h=>by
  simp only [PV.eqbs,Bool.and_eq_true] at h;rw [PV.eqb_ok x y h.1,PV.eqbs_ok l l' h.2]
 | [],_::_,h=>by simp [PV.eqbs] at h
 | _::_,[],h=>by simp [PV.eqbs] at h
end
mutual
def V.eqb : V->V->Bool
 | .p x,.p y=>PV.eqb x y
 | .agg l,.agg l'=>V.eqbs l l'
 | .fn (.func f) a b,.fn (.func f') a' b'=>decide (f=f')&&(V.eqbs a a'&&V.eqbs b b')
 | .ptr o i,.ptr o' i'=>decide (o=o')&&decide (i=i')
 | .ep o i j t,.ep o' i' j' t'=>decide (o=o')&&(decide (i=i')&&(decide (j=j')&&decide (t=t')))
 | .sl o i j t,.sl o' i' j' t'=>decide (o=o')&&(decide (i=i')&&(decide (j=j')&&decide (t=t')))
 | .lp x i,.lp x' i'=>PV.eqb x x'&&decide (i=i')
 | .tup l,.tup l'=>V.eqbs l l'
 | .mp o,.mp o'=>decide (o=o')
 | .bp o,.bp o'=>decide (o=o')
 | .junk,.junk=>true
 | _,_=>false
def V.eqbs : List V->List V->Bool
 | [],[]=>true
 | x::l,y::l'=>V.eqb x y&&V.eqbs l l'
 | _,_=>false
end
mutual
theorem V.eqb_ok : ∀x y:V,V.eqb x y=true->x=y:=fun x y h=>by
 unfold V.eqb at h
 split at h<;>try simp only [Bool.and_eq_true,decide_eq_true_eq,Bool.false_eq_true] at h
 ·rw [PV.eqb_ok _ _ h]
 ·rw [V.eqbs_ok _ _ h]
 ·obtain ⟨rfl,h1,h2⟩:=h;rw [V.eqbs_ok _ _ h1,V.eqbs_ok _ _ h2]
 ·obtain ⟨rfl,rfl⟩:=h;rfl
 ·obtain ⟨rfl,rfl,rfl,rfl⟩:=h;rfl
 ·obtain ⟨rfl,rfl,rfl,rfl⟩:=h;rfl
 ·obtain ⟨h1,rfl⟩:=h;rw [PV.eqb_ok _ _ h1]
 ·rw [V.eqbs_ok _ _ h]
 ·rw [h]
 ·rw [h]
 ·rfl
theorem V.eqbs_ok : ∀x y:List V,V.eqbs x y=true->x=y
 | [],[],_=>rfl
 | x::l,y::l',h=>by
  simp only [V.eqbs,Bool.and_eq_true] at h;rw [V.eqb_ok x y h.1,V.eqbs_ok l l' h.2]
 | [],_::_,h=>by simp [V.eqbs] at h
 | _::_,[],h=>by simp [V.eqbs] at h
end
def Ql : List (PV×PV)->List (PV×PV)->Bool
 | [],[]=>true
 | x::l,y::l'=>(PV.eqb x.1 y.1&&PV.eqb x.2 y.2)&&Ql l l'
 | _,_=>false
theorem JI : ∀x y,Ql x y=true->x=y
 | [],[],_=>rfl
 | x::l,y::l',h=>by
  simp only [Ql,Bool.and_eq_true] at h;rw [Prod.ext (PV.eqb_ok _ _ h.1.1) (PV.eqb_ok _ _ h.1.2),JI l l' h.2]
 | [],_::_,h=>by simp [Ql] at h
 | _::_,[],h=>by simp [Ql] at h
def Obj.eqb : Obj->Obj->Bool
 | .cells l,.cells l'=>V.eqbs l l'
 | .elems s l,.elems s' l'=>decide (s=s')&&PV.eqbs l l'
 | .map l,.map l'=>Ql l l'
 | .dead,.dead=>true
 | _,_=>false
theorem Obj.eqb_ok (x y:Obj) (h:Obj.eqb x y=true):x=y:=by
 unfold Obj.eqb at h
 split at h<;>try simp only [Bool.and_eq_true,decide_eq_true_eq,Bool.false_eq_true] at h
 ·rw [V.eqbs_ok _ _ h]
 ·obtain ⟨rfl,h⟩:=h;rw [PV.eqbs_ok _ _ h]
 ·rw [JI _ _ h]
 ·rfl
def ZdW : List Obj->List Obj->Option (List Obj)
 | [],r=>some r
 | x::l,y::r=>if Obj.eqb x y=true then ZdW l r else none
 | _::_,[]=>none
theorem Wx : ∀ {l r k:List Obj},ZdW l r=some k->r=l++k
 | [],r,k,h=>by simp [ZdW] at h;simp [h]
 | x::l,y::r,k,h=>by
  simp only [ZdW] at h
  split at h
  ·rename_i he;rw [Obj.eqb_ok _ _ he,Wx h];rfl
  ·cases h
 | _::_,[],k,h=>by simp [ZdW] at h
def KF {α β:Type} (f:α->Option (List β)):List α->Option (List β)
 | []=>some []
 | a::l=>match f a with
  | some x=>match KF f l with
   | some y=>some (x++y)
   | none=>none
  | none=>none
theorem Yd {α β:Type} {f:α->Option (List β)} : ∀ {l:List α} {rs:List β},KF f l=some rs-> ∀a∈l,∃x,f a=some x/\ ∀b∈x,b∈rs
 | [],_,_,a,ha=>by simp at ha
 | c::l,rs,h,a,ha=>by
  simp only [KF] at h
  split at h
  ·rename_i x hx
   split at h
   ·rename_i y hy;simp at h;subst h;rcases List.mem_cons.1 ha with rfl | ha
    ·exact ⟨x,hx,fun b hb=>List.mem_append_left _ hb⟩
    ·obtain ⟨z,h1,h2⟩:=Yd hy a ha;exact ⟨z,h1,fun b hb=>List.mem_append_right _ (h2 b hb)⟩
   ·cases h
  ·cases h
theorem Wi {P o fr H} {K K':V->List Obj->Prop} (hk: ∀x H',K x H'->K' x H') (h:Zq P o fr H K):Zq P o fr H K':=by
 unfold Zq at h ⊢
 split
 ·rename_i f azs ho;rw [ho] at h;simp only at h;unfold U0 at h ⊢
  split at h
  ·exact h.mono hk
  ·exact h.mono hk
  ·exact h.elim
 ·rename_i ho;rw [ho] at h;simp only at h
  split at h
  ·exact hk _ _ h
  ·exact h.elim
abbrev Out := List (V×List Obj)
def X8 (P:Program) (call:FuncId->List V->List Obj->Option Out):Prop:= ∀g a H rs,call g a H=some rs->ACalls P g a H fun x H'=>(x,H')∈rs
section
variable (P : Program) (call : FuncId -> List V -> List Obj -> Option Out)
def Vt (o:Oper) (fr:List V) (H:List Obj):Option Out :=
 match Xr o.op with
 | some (f,azs)=>match ev fr f with
  | .fn (.func g) fs cs=>call g (fs++azs.map (ev fr)++cs) H
  | .p (.fn g)=>call g (azs.map (ev fr)) H
  | _=>none
 | none=>match aop P o.op fr H with
  | some r=>some [r]
  | none=>none
def ZfN (ds:List (Option Nat)):List Oper->List V->List Obj->Option (List (List V×List Obj))
 | [],fr,H=>some [(fr,H)]
 | o::r,fr,H=>match o.guard with
  | none=>match Vt P call o fr H with
   | some xs=>KF (fun x=>ZfN ds r (ptO fr o.dst x.1) x.2) xs
   | none=>none
  | some (j,b)=>match gAt fr ds j with
   | .p (.bool c)=>if c=b then (match Vt P call o fr H with
     | some xs=>KF (fun x=>ZfN ds r (ptO fr o.dst x.1) x.2) xs
     | none=>none) else ZfN ds r (ptO fr o.dst (.tup [])) H
   | .tup []=>ZfN ds r (ptO fr o.dst (.tup [])) H
   | _=>none
variable {P} {call}
theorem W9 (hc:X8 P call) {o fr H rs} (h:Vt P call o fr H=some rs):Zq P o fr H fun x H'=>(x,H')∈rs:=by
 unfold Vt at h;unfold Zq
 split at h
 ·rename_i f azs ho;rw [ho];simp only;unfold U0
  split at h
  ·rename_i hf;rw [hf];exact hc _ _ _ _ h
  ·rename_i hf;rw [hf];exact hc _ _ _ _ h
  ·cases h
 ·rename_i ho;rw [ho];simp only
  split at h
  ·rename_i r hr;simp at h;subst h;rw [hr];simp
  ·cases h
theorem UB (hc:X8 P call) {ds:List (Option Nat)} : ∀ {l:List Oper} {fr:List V} {H:List Obj} {rs} {K:List V->List Obj->Prop},ZfN P call ds l fr H=some rs->(∀r∈rs,K r.1 r.2)->Yo P ds l fr H K
 | [],fr,H,rs,K,h,hk=>by
  simp only [ZfN,Option.some.injEq] at h;subst h;exact hk (fr,H) (by simp)
 | o::l,fr,H,rs,K,h,hk=>by
  have step: ∀ {rs},(match Vt P call o fr H with | some xs=>KF (fun x=>ZfN P call ds l (ptO fr o.dst x.1) x.2) xs | none=>none)=some rs->(∀r∈rs,K r.1 r.2)->Zq P o fr H fun x H'=>Yo P ds l (ptO fr o.dst x) H' K:=fun {rs} h hk=>by
   split at h
   ·rename_i xs hx;refine Wi (fun x H' hm=> ?_) (W9 hc hx);obtain ⟨z,h1,h2⟩:=Yd h _ hm;exact UB hc h1 fun r hr=>hk r (h2 r hr)
   ·cases h
  simp only [ZfN] at h;simp only [Yo]
  split at h
  ·rename_i hg;rw [hg];exact step h hk
  ·rename_i j b hg;rw [hg];simp only;unfold ZX
   split at h
   ·rename_i c hc';rw [hc'];simp only
    split at h
    ·rename_i hcb;exact ⟨fun _=>step h hk,fun e=>absurd hcb e⟩
    ·rename_i hcb;exact ⟨fun e=>absurd e hcb,fun _=>UB hc h hk⟩
   ·rename_i hc';rw [hc'];exact UB hc h hk
   ·cases h
end
mutual
/-- a value, where the own row o is a value from now on, wherever it stands -/
def fzD (o:Nat) (xs:List PV):V->V
 | .sl o' off len tot=>if o'=o/\xs.length=tot/\off+len<=tot then .p (.list false ((xs.take (off+len)).drop off)) else .sl o' off len tot
 | .agg cs=>mkA (Zle o xs cs)
 | .tup cs=> .tup (Zle o xs cs)
 | .p x=> .p x
 | .fn f a b=> .fn f a b
 | .ptr a b=> .ptr a b
 | .ep a b c d=> .ep a b c d
 | .lp a b=> .lp a b
 | .mp a=> .mp a
 | .bp a=> .bp a
 | .junk=> .junk
def Zle (o:Nat) (xs:List PV):List V->List V
 | []=> []
 | x::l=>fzD o xs x::Zle o xs l
end
theorem QI {o:Nat} {xs:List PV} : ∀l:List V,Zle o xs l=l.map (fzD o xs)
 | []=>by rw [Zle];rfl
 | x::l=>by rw [Zle,QI l];rfl
theorem Weak.fzD {n0 fr H} (o:Nat) {S:Nat} {xs:List PV} (ho:H[o]? =some (.elems S xs)):Weak n0 fr H (fr.map (AM.fzD o xs)) ((H.map (J6 (AM.fzD o xs))).set o .dead) :=
 Weak.fzG (AM.fzD o xs) o ho fun {F H' ι ι' w} hX hHX row {x v} hv=>by
  have sl: ∀ {o' off len tot v},RV F H ι w (.sl o' off len tot) v->RV F H' ι' w (AM.fzD o xs (.sl o' off len tot)) v:=fun {o' off len tot v} hv=>by
   rw [AM.fzD]
   split
   ·rename_i hc;obtain ⟨rfl,h1,h2⟩:=hc;exact row h1 h2 hv
   ·exact hv.ext hX hHX
  induction hv with
  | agg cs a hs _ ih =>
   rw [AM.fzD,QI];refine Zdp (by simpa using hs) fun j c hj=> ?_;rw [List.getElem?_map] at hj;obtain ⟨y,h1,rfl⟩:=Option.map_eq_some_iff.1 hj;exact ih j y h1
  | tup cs a hs _ ih =>
   rw [AM.fzD,QI];refine .tup _ _ (by simpa using hs) fun j c hj=> ?_;rw [List.getElem?_map] at hj;obtain ⟨y,h1,rfl⟩:=Option.map_eq_some_iff.1 hj;exact ih j y h1
  | slNil o S a h hH=>exact sl (.slNil o S a h hH)
  | sl o off len tot b S cap t xs c h hH ht hw hcap hl hlen hm=>exact sl (.sl o off len tot b S cap t xs c h hH ht hw hcap hl hlen hm)
  | slD o off len tot v h=>exact sl (.slD o off len tot v h)
  | slS o off len tot v S xs h hne=>exact sl (.slS o off len tot v S xs h hne)
  | slC o tot b cap cs h hH hl hm=>exact sl (.slC o tot b cap cs h hH hl hm)
  | p x v h=>rw [AM.fzD];exact (RV.p x v h).ext hX hHX
  | fn f cs ds a e hs ht hr hq _ _=>rw [AM.fzD];exact (RV.fn f cs ds a e hs ht hr hq).ext hX hHX
  | ptr o off b cs h hH=>rw [AM.fzD];exact (RV.ptr o off b cs h hH).ext hX hHX
  | ep o i j tot b S xs h hH ht=>rw [AM.fzD];exact (RV.ep o i j tot b S xs h hH ht).ext hX hHX
  | lp x j b off u hX' hb hu hr=>rw [AM.fzD];exact (RV.lp x j b off u hX' hb hu hr).ext hX hHX
  | mp o b es h hH=>rw [AM.fzD];exact (RV.mp o b es h hH).ext hX hHX
  | bp o b T E r bs h hH=>rw [AM.fzD];exact (RV.bp o b T E r bs h hH).ext hX hHX
  | bpD o v h=>rw [AM.fzD];exact (RV.bpD o v h).ext hX hHX
  | junk v=>rw [AM.fzD];exact .junk v
  | mpD o v h=>rw [AM.fzD];exact (RV.mpD o v h).ext hX hHX
  | ptrD o off v h=>rw [AM.fzD];exact (RV.ptrD o off v h).ext hX hHX
  | epD o i j tot v h=>rw [AM.fzD];exact (RV.epD o i j tot v h).ext hX hHX
  | epS o i j tot v S xs h hne=>rw [AM.fzD];exact (RV.epS o i j tot v S xs h hne).ext hX hHX
def fz1 (s:List V×List Obj) (o:Nat):List V×List Obj:=match oat s.2 o with
 | .elems _ xs=>(s.1.map (fzD o xs),(s.2.map (J6 (fzD o xs))).set o .dead)
 | _=>s
theorem ZqO {n0:Nat} (s:List V×List Obj) (o:Nat):Weak n0 s.1 s.2 (fz1 s o).1 (fz1 s o).2:=by
 unfold fz1
 split
 ·rename_i S xs ho;exact Weak.fzD _ (Zz ho (by simp))
 ·exact Weak.refl _ _ _
def fzL (os:List Nat) (s:List V×List Obj):List V×List Obj:=os.foldl fz1 s
theorem Zbm {n0:Nat} : ∀(os:List Nat) (s:List V×List Obj),Weak n0 s.1 s.2 (fzL os s).1 (fzL os s).2
 | [],s=>Weak.refl _ _ _
 | o::os,s=>(ZqO s o).trans (Zbm os _)
mutual
def ZdD : V->List Nat
 | .sl o _ _ _=> [o]
 | .agg cs=>Kt cs
 | .tup cs=>Kt cs
 | _=> []
def Kt : List V->List Nat
 | []=> []
 | x::l=>ZdD x++Kt l
end
def Qa (o:Oper) (fr:List V) (H:List Obj):List Nat:=match o.op with
 | .call { callee:= .builtin .append,args:=azs,.. } =>(((azs.toList.drop 1).flatMap X0).map (gt fr)).flatMap ZdD
 | .call { callee:= .builtin .copy,args:=azs,.. } =>(((azs.toList.drop 1).flatMap X0).map (gt fr)).flatMap ZdD
 | .load _ x=>match ev fr x with
  | .ptr q _=>match oat H q with
   | .cells cs=>Kt cs
   | _=> []
  | y=>ZdD y
 | op=>((opR op).map (gt fr)).flatMap ZdD
def WL (P:Program) (ops:Array Oper) (l:List Oper) (fr:List V) (H:List Obj) (K:List V->List Obj->Prop):Prop :=
 ∀(Q:Exit->Act->World->Prop) F ι a w,Rel F H ι w->Fr F H ι w fr a->(∀fr' H' ι' a' w',K fr' H'->Good F H ι w H' ι' w'->Fr F H' ι' w' fr' a'->Q .normal a' w')->wpList P ops Q l a w
def WR (P:Program) (ops:Array Oper) (o:Oper) (l:List Oper) (fr:List V) (H:List Obj) (K:List V->List Obj->Prop):Prop :=
 ∀(Q:Exit->Act->World->Prop) F ι a w,Rel F H ι w->Fr F H ι w fr a->(∀fr' H' ι' a' w',K fr' H'->Good F H ι w H' ι' w'->Fr F H' ι' w' fr' a'->Q .normal a' w')->o.wp P a w (wpList P ops Q l) Q
section
variable {P : Program} {ops : Array Oper} {l : List Oper} {o : Oper} {fr : List V} {H : List Obj} {K : List V -> List Obj -> Prop}
theorem WL.nil (h:K fr H):WL P ops [] fr H K:=fun Q F ι a w hr hf hq=>hq fr H ι a w h (Good.refl hr) hf
theorem WR.weak {fr' H'} (hw:Weak H.length fr H fr' H') (h:WR P ops o l fr' H' K):WR P ops o l fr H K:=fun Q F ι a w hr hf hq=>by
 obtain ⟨ι',r,f,g⟩:=hw F ι a w hr hf;exact h Q F ι' a w r f fun fr2 H2 ι2 a2 w2 k g2 f2=>hq fr2 H2 ι2 a2 w2 k ((g H ι w (Nat.le_refl _) (Good.refl hr)).trans g2) f2
theorem WR.step (h:Zq P o fr H fun x H'=>WL P ops l (ptO fr o.dst x) H' K):WR P ops o l fr H K:=fun Q F ι a w hr hf hq =>
 YH h hr hf fun x H' ι' v w' hk g r=>hk Q F ι' _ w' g.rel ((g.fr hf).put o.dst r) fun fr2 H2 ι2 a2 w2 k g2 f2=>hq fr2 H2 ι2 a2 w2 k (g.trans g2) f2
theorem WR.opX {B:V->List Obj->Prop} (hp:OpX P o fr H B) (hk: ∀y H2,B y H2->WL P ops l (ptO fr o.dst y) H2 K):WR P ops o l fr H K:=fun Q F ι a w hr hf hq=>by
 obtain ⟨y,H2,nx,v,ι2,w2,hB,hrun,e2,g2,hrv⟩:=hp F ι a w hr hf;have go: ∀v,RV F H2 ι2 w2 y v->wpList P ops Q l (a.put o.dst v) w2:=fun v hrv=>hk y H2 hB Q F ι2 _ w2 g2.rel ((g2.fr hf).put o.dst hrv) fun fr3 H3 ι3 a3 w3 k g3 f3=>hq fr3 H3 ι3 a3 w3 k (g2.trans g3) f3;unfold Oper.wp;rw [hrun];rcases e2 with rfl | ⟨rfl,rfl⟩
 ·exact go v hrv
 ·exact go undef hrv
theorem WL.cons (hg:o.guard=none) (h:WR P ops o l fr H K):WL P ops (o::l) fr H K:=fun Q F ι a w hr hf hq=>by
 simp only [wpList]
 have hw:Region.wanted o (yielded ops a.tmps)=true:=by simp [Region.wanted,hg]
 rw [if_pos hw];exact .inl (h Q F ι a w hr hf hq)
theorem WL.consB {j:Nat} {b c:Bool} (hg:o.guard=some (j,b)) (hc:gAt fr (ops.toList.map (·.dst)) j= .p (.bool c)) (h1:c=b->WR P ops o l fr H K) (h2:c≠b->WL P ops l (ptO fr o.dst (.tup [])) H K):WL P ops (o::l) fr H K:=fun Q F ι a w hr hf hq=>by
 simp only [wpList];have hy:=XP hf hc
 by_cases hcb:c=b
 ·have hw:Region.wanted o (yielded ops a.tmps)=true:=by simp [Region.wanted,hg,hy,hcb]
  rw [if_pos hw];exact .inl (h1 hcb Q F ι a w hr hf hq)
 ·have hw: ¬(Region.wanted o (yielded ops a.tmps)=true):=by simp [Region.wanted,hg,hy,hcb]
  rw [if_neg hw];exact h2 hcb Q F ι _ w hr (hf.put o.dst XB) hq
theorem WL.consS {j:Nat} {b:Bool} (hg:o.guard=some (j,b)) (hc:gAt fr (ops.toList.map (·.dst)) j= .tup []) (h:WL P ops l (ptO fr o.dst (.tup [])) H K):WL P ops (o::l) fr H K:=fun Q F ι a w hr hf hq=>by
 simp only [wpList];have hy:=Xj hf hc
 have hw: ¬(Region.wanted o (yielded ops a.tmps)=true):=by simp [Region.wanted,hg,hy]
 rw [if_neg hw];exact h Q F ι _ w hr (hf.put o.dst XB) hq
theorem ZqZ {id:Nat} {Q:Exit->List V->List Obj->Prop} (h:WL P ops ops.toList fr H (Q .normal)):AWP P (.region id ops false) fr H Q:=fun F ι a w hr hf =>
 wp_region_list (h _ F ι a w hr hf fun fr' H' ι' _ _ k g f=>⟨fr',H',ι',k,g,f⟩)
end
theorem OpS.opX {P o fr H y H'} (h:OpS P o fr H y H'):OpX P o fr H fun x K=>x=y/\K=H':=fun F ι a w hr hf=>by
 obtain ⟨nx,v,ι',w',e,e2,g,r⟩:=h F ι a w hr hf;exact ⟨y,H',nx,v,ι',w',⟨rfl,rfl⟩,e,e2,g,r⟩
theorem OpN.opX {P o fr H B} (h:OpN P o fr H B):OpX P o fr H fun x K=>B x/\K=H:=fun F ι a w hr hf=>by
 obtain ⟨x,v,hB,e,r⟩:=h F ι a w hr hf;exact ⟨x,H,_,v,ι,w,⟨hB,rfl⟩,e,.inl rfl,Good.refl hr,r⟩
theorem OpX.mono {P o fr H} {B B':V->List Obj->Prop} (h:OpX P o fr H B) (hb: ∀x K,B x K->B' x K):OpX P o fr H B':=fun F ι a w hr hf=>by
 obtain ⟨y,H',nx,v,ι',w',q,r⟩:=h F ι a w hr hf;exact ⟨y,H',nx,v,ι',w',hb _ _ q,r⟩
theorem ZfA {P:Program} {o:Oper} {fr:List V} {H:List Obj} (t e:TypeId) (x y:Operand) (m by' S:Nat) (z:PV) (h:o.op= .makeSlice t x y) (hu:P.underlying t=some (.slice e)) (hs:tsz P e=some S) (hzv:VL P e=some z) (hb:(P.info? e).map (·.bytes)=some by') (hS0:0<S) (hzl:z.cells.length=S) (hz1:z.cells.all (·.one)=true)
  (hby:by'*m<=281474976710656) (hm2:m<=281474976710656) (hX:ev fr x= .p (.int .i64 0)) (hY:ev fr y= .p (.int .i64 m)):OpS P o fr H (.sl H.length 0 0 0) (H++ [.elems S []]):=fun F ι a w hr hf=>by
 have hx:=hf.ev x;have hy:=hf.ev y;rw [hX] at hx;rw [hY] at hy
 cases hx with | p _ _ hx=>cases hy with | p _ _ hy =>
 obtain ⟨zz,hzz⟩: ∃zz,((P.info? e).bind (·.zero))=some zz:=by
  unfold VL at hzv;simp only [Option.bind_eq_some_iff] at hzv;obtain ⟨zz,h1,_⟩:=hzv;exact ⟨zz,by simpa [Option.bind_eq_some_iff] using h1⟩
 have hrz:RP (Own F ι) w z zz:=Vo hzz hzv;obtain ⟨z1,z2⟩:=XT hrz hz1;simp only [Option.bind_eq_some_iff] at hzz;obtain ⟨ie,hie,hzz⟩:=hzz;simp [hie] at hb
 let arr:Array Value:=(Array.range (m*S)).map (zz.cells[· %zz.cells.size]!)
 have g:=X6 (H:=H) hr (Pushed.alloc w arr e) (.elems S []) ⟨m,by simp [arr],by simp,by unfold maxLen;omega,(fun i q hi=>by simp at hi),fun i q j c hi hj=>by simp at hi⟩;refine ⟨_,.slice (some ⟨w.heap.size,0,none⟩) 0 m,_,_,?_,.inl rfl,g,?_⟩
 ·have hw:IntKind.i64.wrap (m:Int)=m:=IntWalk.i64_in _ (by omega);have hw0:IntKind.i64.wrap (0:Int)=0:=rfl
  have h1: ¬((m:Int)<0):=by omega
  have h2: ¬(281474976710656<((ie.bytes:Int)*(m:Int))):=by
   rw [hb]
   have:((by'*m:Nat):Int)=(by':Int)*m:=by simp
   omega
  by_cases h0:m*S=0
  ·have e9:Array.range 0= #[]:=by simp [Array.range]
   simp [execOp,h,hx.int_inv,hy.int_inv,Instr.makeSlice,asInt,asIntOf,run_underlying hu,typeInfo,hie,hw,hw0,h1,h2,ZT hs,h0,newRow,e9,arr]
  ·simp [execOp,h,hx.int_inv,hy.int_inv,Instr.makeSlice,asInt,asIntOf,run_underlying hu,typeInfo,hie,hw,hw0,h1,h2,ZT hs,h0,zeroValue,hzz,newRow,arr]
 ·have:=RV.sl (F:=F) (w:=w.alloc (.cells arr e)) (H:=H++ [.elems S []]) (ι:=ι++ [some w.heap.size]) H.length 0 0 0 w.heap.size S m e [] arr (by rw [<- hr.len];simp) (by simp) (by simp) (Pushed.new (Pushed.alloc w arr e)) (by simp [arr]) (by omega) (by omega) (by unfold maxLen;omega);simpa using this
theorem ZhI {P:Program} {o:Oper} {fr:List V} {H:List Obj} {t t2 e:TypeId} {x y:Operand} {S:Nat} (h:o.op= .call { callee:= .builtin .append,args:= #[x,y],argTypes:= #[t,t2] }) (hu:P.underlying t=some (.slice e)) (hs:tsz P e=some S) (hS:0<S)
  (hx:ev fr x= .p (.list true [])) (hsrc:ZfK P H t2 (ev fr y)=some []):OpS P o fr H (.p (.list true [])) H:=fun F ι a w hr hf=>by
 have h1:=hf.ev x;have h2:=hf.ev y;rw [hx] at h1;obtain ⟨news,src⟩:=Ziq hsrc (by simp [okE]) hS hr h2;have hn0:news= []:=List.eq_nil_of_length_eq_zero (by have:=src.len;simpa using this);subst hn0;have e1:=src.first w rfl;simp at e1;have e3:=src.lenOf w;simp only [List.length_nil] at e3
 suffices hh: ∃ad cap,a.eval x= .slice ad 0 cap by
  obtain ⟨ad,cap,ev'⟩:=hh
  have hrun:(Builtin.append_ #[t,t2] o.type #[a.eval x,a.eval y]).run P w= .ok (.slice ad 0 cap) w:=by
   rw [ev']
   rcases src.ty with hu2 | ⟨e2,hu2⟩<;>cases ad <;>
    simp [Builtin.append_,run_underlying hu,run_underlying hu2,ZT hs,e3,e1,storeCells]
  exact ⟨_,.slice ad 0 cap,ι,w,by simp [execOp,h,resolve,invoke,builtin,hrun],.inl rfl,Good.refl hr,by rw [<- ev'];exact h1⟩
 cases h1 with | p _ _ h1 =>
 generalize a.eval x=vx at h1
 cases h1 with
 | nils=>exact ⟨_,_,rfl⟩
 | emp=>exact ⟨_,_,rfl⟩
 | list _ _ b off cap=>exact ⟨_,_,rfl⟩
def Zb5 (P:Program) (o:Oper) (fr:List V) (H:List Obj):Option Out :=
 match o.op with
 | .binOp .eql t x (.const (.slice none 0 0)) _=>match P.underlying t,ev fr x with
  | some (.slice _),.p (.list _ xs)=>some (if xs.isEmpty=true then [(.p (.bool true),H),(.p (.bool false),H)] else [(.p (.bool false),H)])
  | _,_=>none
 | .binOp .neq t x (.const (.slice none 0 0)) _=>match P.underlying t,ev fr x with
  | some (.slice _),.p (.list _ xs)=>some (if xs.isEmpty=true then [(.p (.bool true),H),(.p (.bool false),H)] else [(.p (.bool true),H)])
  | _,_=>none
 | .call { callee:= .builtin .copy,args:=azs,argTypes:=ts } =>match azs.toList,ts.toList with
  | [x,y],[t,_]=>match P.underlying t with
   | some (.slice e)=>match (P.info? e).map (·.size),ev fr x,ev fr y with
    | some S,.sl ob i n m,.p (.list _ ys)=>match oat H ob with
     | .elems S' xs=>if (n=0\/ys.isEmpty=true)/\xs.length=m then some [(.p (.int .i64 0),H)] else if S'=S/\0<S/\i=0/\n=m/\xs.length=n/\ys.length<=n/\0<ys.length/\(ys.all fun q=>decide (q.cells.length=S)&&q.cells.all (·.one))=true then some [(.p (.int .i64 (ys.length:Nat)),H.set ob (.elems S (ys++xs.drop ys.length)))] else none
     | _=>none
    | some 1,.sl ob i n m,.sl ob' 0 n' m'=>match oat H ob with
     | .elems 1 xs=>if ob'=ob/\m'=m/\xs.length=m/\0<Nat.min n' n/\(xs.all (·.one))=true then some [(.p (.int .i64 (Nat.min n' n:Nat)),H.set ob (.elems 1 (xs.take i++xs.take (Nat.min n' n)++xs.drop (i+Nat.min n' n))))] else none
     | _=>none
    | _,_,_=>none
   | _=>none
  | _,_=>none
 | .call { callee:= .builtin .append,args:=azs,argTypes:=ts } =>match azs.toList,ts.toList with
  | [x,y],[t,t2]=>match P.underlying t with
   | some (.slice e)=>match tsz P e,ev fr x,ZfK P H t2 (ev fr y) with
    | some S,.p (.list true []),some []=>if 0<S then some [(.p (.list true []),H)] else none
    | _,_,_=>none
   | _=>none
  | _,_=>none
 | .makeSlice t x y=>match P.underlying t with
  | some (.slice e)=>match P.underlying e,tsz P e,VL P e,(P.info? e).map (·.bytes),ev fr x,ev fr y with
   | some (.slice _),some 1,some z,some by',.p (.int .i64 n),.p (.int .i64 m)=>if 0<=n/\m=n/\z.one=true/\by'*n.toNat<=281474976710656/\n.toNat<=281474976710656 then some [(.sl H.length 0 n.toNat n.toNat,H++ [.cells (List.replicate n.toNat (.p z))])] else none
   | _,_,_,_,_,_=>none
  | _=>none
 | _=>none
theorem Zg9 {P o fr H rs} (h:Zb5 P o fr H=some rs):OpX P o fr H fun x K=>(x,K)∈rs:=by
 unfold Zb5 at h
 split at h
 ·rename_i t x t2 ho
  split at h
  ·rename_i e c xs hu hx;simp at h;subst h;refine (Ze9 ho hu hx fun a=>rfl).opX.mono ?_;rintro y K ⟨⟨b,rfl,hb⟩,rfl⟩
   cases xs with
   | nil=>cases b<;>simp
   | cons z zs =>
    cases b with
    | true=>cases hb rfl
    | false=>simp
  ·cases h
 ·rename_i t x t2 ho
  split at h
  ·rename_i e c xs hu hx;simp at h;subst h;refine (ZgF ho hu hx fun a=>rfl).opX.mono ?_;rintro y K ⟨⟨b,rfl,hb⟩,rfl⟩
   cases xs with
   | nil=>cases b<;>simp
   | cons z zs =>
    cases b with
    | false=>cases hb rfl
    | true=>simp
  ·cases h
 ·rename_i azs ts ho
  split at h
  ·rename_i x y t t2 e1 e2
   split at h
   ·rename_i e hu
    split at h
    ·rename_i S ob i n m c ys hs hx hy;obtain ⟨azs⟩:=azs;obtain ⟨ts⟩:=ts;simp at e1 e2;subst e1;subst e2
     split at h
     ·rename_i S' xs hH
      split at h
      ·rename_i hc;obtain ⟨h1,h2⟩:=hc;simp at h;subst h;refine (ZdN ho hu hs hx hy (Zz hH (by simp)) h2 (h1.imp id List.isEmpty_iff.1)).opX.mono ?_;rintro y K ⟨rfl,rfl⟩;simp
      ·split at h
       ·rename_i hc;obtain ⟨rfl,h1,rfl,rfl,h2,h3,h4,h5⟩:=hc;simp at h;subst h;refine (Zez ho hu hs h1 hx hy (Zz hH (by simp)) h2 h3 h4 fun q hq=> ?_).opX.mono ?_
        ·have:=List.all_eq_true.1 h5 q hq;simp only [Bool.and_eq_true,decide_eq_true_eq,List.all_eq_true] at this;exact this
        ·rintro y K ⟨rfl,rfl⟩;simp
       ·cases h
     ·cases h
    ·rename_i ob i n m ob' n' m' hs hx hy;obtain ⟨azs⟩:=azs;obtain ⟨ts⟩:=ts;simp at e1 e2;subst e1;subst e2
     split at h
     ·rename_i xs hH
      split at h
      ·rename_i hc;obtain ⟨rfl,rfl,h1,h2,h3⟩:=hc;simp at h;subst h;refine (Zeb ho hu hs hx hy (Zz hH (by simp)) h1 rfl h2 fun q hq=>List.all_eq_true.1 h3 q hq).opX.mono ?_;rintro y K ⟨rfl,rfl⟩;simp
      ·cases h
     ·cases h
    ·cases h
   ·cases h
  ·cases h
 ·rename_i azs ts ho
  split at h
  ·rename_i x y t t2 e1 e2
   split at h
   ·rename_i e hu
    split at h
    ·rename_i S hs hx hy
     split at h
     ·rename_i hS;simp at h;subst h;obtain ⟨azs⟩:=azs;obtain ⟨ts⟩:=ts;simp at e1 e2;subst e1;subst e2;refine (ZhI ho hu hs hS hx hy).opX.mono ?_;rintro y K ⟨rfl,rfl⟩;simp
     ·cases h
    ·cases h
   ·cases h
  ·cases h
 ·rename_i t x y ho
  split at h
  ·rename_i e hu
   split at h
   ·rename_i z by' n m _ hs hz hb hx hy
    split at h
    ·rename_i hc;obtain ⟨h1,rfl,h2,h3,h4⟩:=hc;simp at h;subst h
     have en:((m.toNat:Nat):Int)=m:=by omega
     refine (Zff t e x y m.toNat by' z ho hu hs hz hb h2 h3 h4 (by rw [hx,en]) (by rw [hy,en])).opX.mono ?_;rintro y K ⟨rfl,rfl⟩;simp
    ·cases h
   ·cases h
  ·cases h
 ·cases h
def Zk9 (P:Program) (o:Oper) (fr:List V) (H:List Obj):Option Out:=match o.op with
 | .makeSlice t x y=>match P.underlying t,ev fr x,ev fr y with
  | some (.slice e),.p (.int .i64 0),.p (.int .i64 m)=>match tsz P e,VL P e,(P.info? e).map (·.bytes) with
   | some S,some z,some by'=>if 0<m/\0<S/\z.cells.length=S/\z.cells.all (·.one)=true/\by'*m.toNat<=281474976710656/\m.toNat<=281474976710656 then some [(.sl H.length 0 0 0,H++ [.elems S []])] else none
   | _,_,_=>none
  | _,_,_=>none
 | _=>none
theorem Zjm {P o fr H rs} (h:Zk9 P o fr H=some rs):OpX P o fr H fun x K=>(x,K)∈rs:=by
 unfold Zk9 at h
 split at h
 ·rename_i t x y ho
  split at h
  ·rename_i e m hu hx hy
   split at h
   ·rename_i S z by' hs hz hb
    split at h
    ·rename_i hc;obtain ⟨h0,h1,h2,h3,h4,h5⟩:=hc;simp at h;subst h
     have en:((m.toNat:Nat):Int)=m:=by omega
     refine (ZfA t e x y m.toNat by' S z ho hu hs hz hb h1 h2 h3 h4 h5 hx (by rw [hy,en])).opX.mono ?_;rintro y K ⟨rfl,rfl⟩;simp
    ·cases h
   ·cases h
  ·cases h
 ·cases h
def Zft (P:Program) (o:Oper) (fr:List V) (H:List Obj):Option Out:=match Zk9 P o fr H with
 | some r=>some r
 | none=>Zb5 P o fr H
theorem ZeZ {P o fr H rs} (h:Zft P o fr H=some rs):OpX P o fr H fun x K=>(x,K)∈rs:=by
 unfold Zft at h
 split at h
 ·rename_i r hr;simp only [Option.some.injEq] at h;subst h;exact Zjm hr
 ·exact Zg9 h
section
variable (P : Program) (call : FuncId -> List V -> List Obj -> Option Out)
def ZsR (o:Oper) (fr:List V) (H:List Obj):Option Out:=match o.op with
 | .makeSlice _ _ _=>match Zft P o fr H with
  | some r=>some r
  | none=>Vt P call o fr H
 | .call { callee:= .builtin .append,.. } =>match Zft P o fr H with
  | some r=>some r
  | none=>Vt P call o fr H
 | _=>match Vt P call o fr H with
  | some r=>some r
  | none=>Zft P o fr H
def ZmU (o:Oper) (fr:List V) (H:List Obj):Option ((List V×List Obj)×Out):=match ZsR P call o fr H with
 | some xs=>some ((fr,H),xs)
 | none=>match ZsR P call o (fzL (Qa o fr H) (fr,H)).1 (fzL (Qa o fr H) (fr,H)).2 with
  | some xs=>some (fzL (Qa o fr H) (fr,H),xs)
  | none=>none
def QA (ds:List (Option Nat)):List Oper->List V->List Obj->Option (List (List V×List Obj))
 | [],fr,H=>some [(fr,H)]
 | o::r,fr,H=>match o.guard with
  | none=>match ZmU P call o fr H with
   | some (s,xs)=>KF (fun x=>QA ds r (ptO s.1 o.dst x.1) x.2) xs
   | none=>none
  | some (j,b)=>match gAt fr ds j with
   | .p (.bool c)=>if c=b then (match ZmU P call o fr H with
     | some (s,xs)=>KF (fun x=>QA ds r (ptO s.1 o.dst x.1) x.2) xs
     | none=>none) else QA ds r (ptO fr o.dst (.tup [])) H
   | .tup []=>QA ds r (ptO fr o.dst (.tup [])) H
   | _=>none
variable {P} {call}
theorem ZdB (hc:X8 P call) {ops:Array Oper} {l:List Oper} {o fr H rs} {K:List V->List Obj->Prop} (h:ZsR P call o fr H=some rs) (hk: ∀r∈rs,WL P ops l (ptO fr o.dst r.1) r.2 K):WR P ops o l fr H K:=by
 have h1: ∀ {rs},Vt P call o fr H=some rs->(∀r∈rs,WL P ops l (ptO fr o.dst r.1) r.2 K)->WR P ops o l fr H K:=fun h hk=>WR.step (Wi (fun x H' hm=>hk _ hm) (W9 hc h));have h2: ∀ {rs},Zft P o fr H=some rs->(∀r∈rs,WL P ops l (ptO fr o.dst r.1) r.2 K)->WR P ops o l fr H K:=fun h hk=>WR.opX (ZeZ h) fun y H2 hm=>hk _ hm;unfold ZsR at h
 split at h
 ·split at h
  ·rename_i r hr;simp at h;subst h;exact h2 hr hk
  ·exact h1 h hk
 ·split at h
  ·rename_i r hr;simp at h;subst h;exact h2 hr hk
  ·exact h1 h hk
 ·split at h
  ·rename_i r hr;simp at h;subst h;exact h1 hr hk
  ·exact h2 h hk
theorem Zkv (hc:X8 P call) {ops:Array Oper} {l:List Oper} {o fr H s rs} {K:List V->List Obj->Prop} (h:ZmU P call o fr H=some (s,rs)) (hk: ∀r∈rs,WL P ops l (ptO s.1 o.dst r.1) r.2 K):WR P ops o l fr H K:=by
 unfold ZmU at h
 split at h
 ·rename_i xs hx;simp only [Option.some.injEq,Prod.mk.injEq] at h;obtain ⟨rfl,rfl⟩:=h;exact ZdB hc hx hk
 ·split at h
  ·rename_i xs hx;simp only [Option.some.injEq,Prod.mk.injEq] at h;obtain ⟨rfl,rfl⟩:=h;exact (ZdB hc hx hk).weak (Zbm (Qa o fr H) (fr,H))
  ·cases h
theorem V3 (hc:X8 P call) {ops:Array Oper} : ∀ {l:List Oper} {fr:List V} {H:List Obj} {rs} {K:List V->List Obj->Prop},QA P call (ops.toList.map (·.dst)) l fr H=some rs->(∀r∈rs,K r.1 r.2)->WL P ops l fr H K
 | [],fr,H,rs,K,h,hk=>by
  simp only [QA,Option.some.injEq] at h;subst h;exact WL.nil (hk (fr,H) (by simp))
 | o::l,fr,H,rs,K,h,hk=>by
  have step: ∀ {rs},(match ZmU P call o fr H with | some (s,xs)=>KF (fun x=>QA P call (ops.toList.map (·.dst)) l (ptO s.1 o.dst x.1) x.2) xs | none=>none)=some rs->(∀r∈rs,K r.1 r.2)->WR P ops o l fr H K:=fun {rs} h hk=>by
   split at h
   ·rename_i s xs hx;refine Zkv hc hx fun r hr=> ?_;obtain ⟨z,h1,h2⟩:=Yd h r hr;exact V3 hc h1 fun r hr=>hk r (h2 r hr)
   ·cases h
  simp only [QA] at h
  split at h
  ·rename_i hg;exact WL.cons hg (step h hk)
  ·rename_i j b hg
   split at h
   ·rename_i c hc';refine WL.consB hg hc' (fun e=> ?_) fun e=> ?_
    ·rw [if_pos e] at h;exact step h hk
    ·rw [if_neg e] at h;exact V3 hc h hk
   ·rename_i hc';exact WL.consS hg hc' (V3 hc h hk)
   ·cases h
end
structure Prm where
 kp:List FuncId:= []
 lt:List FuncId:= []
 lh:List FuncId:= []
 kn:List (FuncId×List V×V):= []
 fa:List FuncId:= []
 lb:Bool:=false
 rounds:Nat:=100000
def lateH? (p:Prm):Op->Bool
 | .call { callee:= .value (.func g),.. } =>p.lh.contains g
 | _=>false
def Zvv (p:Prm):Op->Bool
 | .alloc _=>true
 | .box _ _=>true
 | .store _ _ _=>true
 | .makeSlice _ _ _=>true
 | .buildSlice _ _ _=>p.lb
 | .mapUpdate _ _ _ _=>true
 | .makeMap _ _=>true
 | .mapEntry _ _ _=>true
 | .entryStore _ _ _ _=>true
 | .call { callee:= .builtin .append,.. } =>true
 | .call { callee:= .builtin .copy,.. } =>true
 | .call { callee:= .value (.tmp _),.. } =>true
 | .call { callee:= .value (.func g),.. } =>p.lh.contains g||p.lt.contains g
 | _=>false
def msS (p:Prm) (l:List Oper) (n:Nat):List Nat:=(List.range n).foldl (fun ms i=>if (Zvv p (Z0 l i).op||(opR (Z0 l i).op).any fun t=>ms.any fun m=>decide ((Z0 l m).dst=some t))=true then ms++ [i] else ms) []
def QE (l:List Oper):Nat:=((List.range (l.length+1)).find? fun n=>decide (0<n)&&YY (List.toArray l) n).getD 0
section
variable (P : Program) (call : FuncId -> List V -> List Obj -> Option Out)
def KC (o:Oper) (fr:List V) (H:List Obj):Option V :=
 match o.op with
 | .buildSlice t n ps=>match ZcC (Jd P t) H n (ps.toList.map fun x=>(x.1,ev fr x.2)) with
  | some x=>some (.p x)
  | none=>none
 | .call { callee:= .builtin .append,args:=azs,argTypes:=ts } =>match azs.toList,ts.toList with
  | [x,y],[t,t2]=>match VZ P H t t2 (ev fr x) (ev fr y) with
   | some (.sl o i n m,H')=>match ZdW H H' with
    | some [.elems _ zs]=>if o=H.length/\i=0/\n=zs.length/\m=zs.length then some (.p (.list false zs)) else none
    | _=>none
   | _=>none
  | _,_=>none
 | op=>match Xr op with
  | none=>match ZC P op fr H with
   | some y=>some y
   | none=>match Wd P op fr H with
    | some (y,H')=>match ZdW H H' with
     | some []=>some y
     | _=>none
    | none=>none
  | some _=>match Vt P call o fr H with
   | some [(y,H')]=>match ZdW H H' with
    | some []=>some y
    | _=>none
   | _=>none
def xhs (ds:List (Option Nat)) (H:List Obj):List Oper->List V->Option (List V)
 | [],fr=>some fr
 | o::r,fr=>match o.guard with
  | none=>match KC P call o fr H with
   | some y=>xhs ds H r (ptO fr o.dst y)
   | none=>none
  | some (j,b)=>match gAt fr ds j with
   | .p (.bool c)=>if c=b then (match KC P call o fr H with
     | some y=>xhs ds H r (ptO fr o.dst y)
     | none=>none) else xhs ds H r (ptO fr o.dst (.tup []))
   | .tup []=>xhs ds H r (ptO fr o.dst (.tup []))
   | _=>none
def xlT (H:List Obj) (l:List Oper):Nat->List Nat->List V->List Obj->Option (List (List V×List Obj))
 | 0,_,fr,L=>some [(fr,H++L)]
 | n+1,rem,fr,L=>KF (fun m=>match Vt P call (Z0 l m) fr (H++L) with
  | some [(y,H')]=>match ZdW H H' with
   | some L'=>xlT H l n (rem.erase m) (ptO fr (Z0 l m).dst y) L'
   | none=>none
  | _=>none) (Y8 l rem)
def Zv8 (o:Oper) (fr:List V) (H:List Obj):Option Out:=match Vt P call o fr H with
 | some xs=>some xs
 | none=>Zft P o fr H
def xlC (ko:List Nat) (l:List Oper):Nat->List Nat->List V->List Obj->Option (List (List V×List Obj))
 | 0,_,fr,H=>some [(fr,H)]
 | n+1,rem,fr,H=>KF (fun m=>match Zv8 P call (Z0 l m) fr H with
  | some xs=>if (xs.all fun x=>ko.all fun k=>Obj.eqb (oat x.2 k) (oat H k))=true then KF (fun x=>xlC ko l n (rem.erase m) (ptO fr (Z0 l m).dst x.1) x.2) xs else none
  | none=>none) (Y8 l rem)
def ksS (l:List Oper) (n:Nat) (ms:List Nat):List Nat:=(List.range n).filter fun i=> !ms.contains i&&(!WP (Z0 l i).op&& !(ms.all fun m=>Qg l n i m))
def koV : V->Option Nat
 | .ptr o _=>some o
 | .sl o _ n m=>if n=m then some o else none
 | _=>none
def koS (l:List Oper) (fr:List V) (ks:List Nat):List Nat:=ks.filterMap fun i=>match ldP (Z0 l i) with
 | some p=>koV (gt fr p)
 | none=>none
def Zm5 (l:List Oper) (fr:List V) (ks ko:List Nat):Bool:=ks.all fun i=>match ldP (Z0 l i) with
 | some p=>match koV (gt fr p) with
  | some o=>ko.contains o
  | none=>false
 | none=>true
def Zhu (p:Prm) (l:List Oper) (fr:List V) (H:List Obj):Option (List (List V×List Obj)) :=
 let n:=QE l
 let ms:=msS p l n
 if (YY (List.toArray l) n&&(Ul (List.toArray (VP ms l)) n&&(JW l n ms&&decide (fr.length<=1000000))))=true then
  match xhs P call (l.map (·.dst)) H ((VP ms l).take n) fr with
  | some fr'=>match (if (ms.any fun m=>lateH? p (Z0 l m).op)=true then none else xlT P call H l ms.length ms fr' []) with
   | some rs=>KF (fun r=>ZfN P call (l.map (·.dst)) (l.drop n) r.1 r.2) rs
   | none=>if (evC l n ms (ksS l n ms)&&Zm5 l fr' (ksS l n ms) (koS l fr' (ksS l n ms)))=true then (match xlC P call (koS l fr' (ksS l n ms)) l ms.length ms fr' H with
    | some rs=>KF (fun r=>ZfN P call (l.map (·.dst)) (l.drop n) r.1 r.2) rs
    | none=>none) else none
  | none=>none
 else none
def ZeB (p:Prm) (l:List Oper) (fr:List V) (H:List Obj):Option (List (List V×List Obj)):=match Zhu P call p l fr H with
 | some rs=>some rs
 | none=>Zhu P call p l (fzL (l.flatMap fun o=>Qa o fr H) (fr,H)).1 (fzL (l.flatMap fun o=>Qa o fr H) (fr,H)).2
variable {P} {call}
theorem Zek {o fr H K} (h1: ∀t n ps,o.op≠ .buildSlice t n ps) (h2: ∀azs ts,o.op≠ .call { callee:= .builtin .append,args:=azs,argTypes:=ts }) (h:Zq P o fr H K):Zr P o fr H K:=by
 unfold Zr
 split
 ·rename_i t n ps ho;exact absurd ho (h1 _ _ _)
 ·rename_i azs ts ho;exact absurd ho (h2 _ _)
 ·exact h
theorem ZdX (hc:X8 P call) {o fr H y} (h:KC P call o fr H=some y):Zr P o fr H fun x H'=>x=y/\H'=H:=by
 unfold KC at h
 split at h
 ·rename_i t n ps ho;unfold Zr;rw [ho];simp only
  split at h
  ·rename_i x hx;simp at h;subst h;rw [hx];simp
  ·cases h
 ·rename_i azs ts ho;unfold Zr;rw [ho];simp only
  split at h
  ·rename_i x y t t2 e1 e2;rw [e1,e2];simp only
   split at h
   ·rename_i o' i n m H' ha
    split at h
    ·rename_i S zs hb
     split at h
     ·rename_i hcnd;obtain ⟨rfl,rfl,rfl,rfl⟩:=hcnd;simp at h;subst h;exact ⟨S,zs,by rw [ha,Wx hb],by simp⟩
     ·cases h
    ·cases h
   ·cases h
  ·cases h
 ·rename_i op h1 h2;refine Zek h1 h2 ?_
  split at h
  ·rename_i hcl;unfold Zq;rw [hcl];simp only [aop]
   split at h
   ·rename_i z hz;simp at h;subst h;rw [hz];exact ⟨rfl,rfl⟩
   ·rename_i hz;rw [hz]
    split at h
    ·rename_i z H' hm;rw [hm]
     split at h
     ·rename_i hb;simp at h;subst h;have e:=Wx hb;rw [List.append_nil] at e;exact ⟨rfl,e⟩
     ·cases h
    ·cases h
  ·split at h
   ·rename_i z H' hx
    split at h
    ·rename_i hb;simp at h;subst h;refine Wi (fun x K hm=> ?_) (W9 hc hx);rw [List.mem_singleton,Prod.mk.injEq] at hm;refine ⟨hm.1,?_⟩;rw [hm.2,Wx hb,List.append_nil]
    ·cases h
   ·cases h
theorem Kb (hc:X8 P call) {ds:List (Option Nat)} {H:List Obj} : ∀ {l:List Oper} {fr fr':List V} {K:List V->Prop},xhs P call ds H l fr=some fr'->K fr'->hs P ds H K l fr
 | [],fr,fr',K,h,hk=>by
  simp only [xhs,Option.some.injEq] at h;subst h;exact hk
 | o::l,fr,fr',K,h,hk=>by
  have step:(match KC P call o fr H with | some y=>xhs P call ds H l (ptO fr o.dst y) | none=>none)=some fr'->exq (fun y=>Zr P o fr H (fun x H'=>x=y/\H'=H)) (fun y=>hs P ds H K l (ptO fr o.dst y)):=fun h=>by
   split at h
   ·rename_i y hy;exact ⟨y,ZdX hc hy,Kb hc h hk⟩
   ·cases h
  simp only [xhs] at h;simp only [hs]
  split at h
  ·rename_i hg;rw [hg];exact step h
  ·rename_i j b hg;rw [hg];simp only;unfold ZX
   split at h
   ·rename_i c hc';rw [hc'];simp only
    split at h
    ·rename_i hcb;exact ⟨fun _=>step h,fun e=>absurd hcb e⟩
    ·rename_i hcb;exact ⟨fun e=>absurd e hcb,fun _=>Kb hc h hk⟩
   ·rename_i hc';rw [hc'];exact Kb hc h hk
   ·cases h
theorem Zav (hc:X8 P call) {o fr H y H'} (h:Vt P call o fr H=some [(y,H')]):Zq P o fr H fun x K=>x=y/\K=H' :=
 Wi (fun x K hm=>by rwa [List.mem_singleton,Prod.mk.injEq] at hm) (W9 hc h)
theorem ZiI (hc:X8 P call) {H:List Obj} {l:List Oper} : ∀ {n:Nat} {rem:List Nat} {fr:List V} {L:List Obj} {rs} {K:List V->List Obj->Prop},xlT P call H l n rem fr L=some rs->(∀r∈rs,∀L,r.2=H++L->K r.1 L)->VE P H l n rem fr L K
 | 0,rem,fr,L,rs,K,h,hk=>by
  simp only [xlT,Option.some.injEq] at h;subst h;exact hk (fr,H++L) (by simp) L rfl
 | n+1,rem,fr,L,rs,K,h,hk=>fun m hm=>by
  simp only [xlT] at h;obtain ⟨z,h1,h2⟩:=Yd h m hm
  split at h1
  ·rename_i y H' hx
   split at h1
   ·rename_i L' hb;have e:=Wx hb;subst e;exact ⟨y,L',Zav hc hx,ZiI hc h1 fun r hr=>hk r (h2 r hr)⟩
   ·cases h1
  ·cases h1
theorem KW {P:Program} {o:Oper} {f1 f2:List V} {H:List Obj} (h:YZ (opR o.op) f1 f2):Zb5 P o f1 H=Zb5 P o f2 H:=by
 have key: ∀x:Operand,(∀t∈X0 x,t∈opR o.op)->ev f1 x=ev f2 x:=fun x hx=>YK fun t ht=>h t (hx t ht);unfold Zb5
 split
 ·rename_i t x t2 ho;rw [key x fun t ht=>by rw [ho];simp [opR,ht]]
 ·rename_i t x t2 ho;rw [key x fun t ht=>by rw [ho];simp [opR,ht]]
 ·rename_i azs ts ho
  split
  ·rename_i x y t t2 e1 e2;obtain ⟨azs⟩:=azs;simp only at e1;rw [key x fun t ht=>by rw [ho];simp [opR,e1,ht],key y fun t ht=>by rw [ho];simp [opR,e1,ht]]
  ·rfl
 ·rename_i azs ts ho
  split
  ·rename_i x y t t2 e1 e2;obtain ⟨azs⟩:=azs;simp only at e1;rw [key x fun t ht=>by rw [ho];simp [opR,e1,ht],key y fun t ht=>by rw [ho];simp [opR,e1,ht]]
  ·rfl
 ·rename_i t x y ho;rw [key x fun t ht=>by rw [ho];simp [opR,ht],key y fun t ht=>by rw [ho];simp [opR,ht]]
 ·rfl
theorem Zcr {P:Program} {o:Oper} {f1 f2:List V} {H:List Obj} (h:YZ (opR o.op) f1 f2):Zk9 P o f1 H=Zk9 P o f2 H:=by
 have key: ∀x:Operand,(∀t∈X0 x,t∈opR o.op)->ev f1 x=ev f2 x:=fun x hx=>YK fun t ht=>h t (hx t ht);unfold Zk9
 split
 ·rename_i t x y ho;rw [key x fun t ht=>by rw [ho];simp [opR,ht],key y fun t ht=>by rw [ho];simp [opR,ht]]
 ·rfl
theorem Zb8 {P:Program} {o:Oper} {f1 f2:List V} {H:List Obj} (h:YZ (opR o.op) f1 f2):Zft P o f1 H=Zft P o f2 H:=by
 rw [Zft,Zft,Zcr h,KW h]
theorem ZjP {P:Program} {call:FuncId->List V->List Obj->Option Out} (hc:X8 P call) {o fr H rs} (h:Zv8 P call o fr H=some rs):stX P o fr H fun x K=>(x,K)∈rs:=by
 unfold Zv8 at h
 split at h
 ·rename_i xs hx;simp only [Option.some.injEq] at h;subst h;exact .inl (W9 hc hx)
 ·exact .inr fun f2 h2=>ZeZ (by rw [<- Zb8 h2];exact h)
theorem Zie (hc:X8 P call) {ko:List Nat} {l:List Oper} : ∀ {n:Nat} {rem:List Nat} {fr:List V} {H:List Obj} {rs} {K:List V->List Obj->Prop},xlC P call ko l n rem fr H=some rs->(∀r∈rs,K r.1 r.2)->ZdZ P ko l n rem fr H K
 | 0,rem,fr,H,rs,K,h,hk=>by
  simp only [xlC,Option.some.injEq] at h;subst h;exact hk (fr,H) (by simp)
 | n+1,rem,fr,H,rs,K,h,hk=>fun m hm=>by
  simp only [xlC] at h;obtain ⟨z,h1,h2⟩:=Yd h m hm
  split at h1
  ·rename_i xs hx
   split at h1
   ·rename_i XW;refine ⟨_,ZjP hc hx,fun y H' hmem=> ?_⟩;obtain ⟨u,h3,h4⟩:=Yd h1 _ hmem;refine ⟨fun k hk=>Obj.eqb_ok _ _ (List.all_eq_true.1 (List.all_eq_true.1 XW _ hmem) k hk),Zie hc h3 fun r hr=>hk r (h2 r (h4 r hr))⟩
   ·cases h1
  ·cases h1
theorem Zgc {ko:List Nat} {x:V} {o:Nat} (h:koV x=some o) (hk:o∈ko):Zab ko x:=by
 unfold koV at h
 split at h
 ·simp at h;subst h;exact Ze3 hk
 ·split at h
  ·rename_i e;subst e;simp at h;subst h;exact Zhn hk
  ·cases h
 ·cases h
theorem ZhK {l:List Oper} {fr:List V} {ks ko:List Nat} (h:Zm5 l fr ks ko=true): ∀k∈ks,∀p,ldP (Z0 l k)=some p->Zab ko (gt fr p):=fun k hk p hp=>by
 have:=List.all_eq_true.1 h k hk;rw [hp] at this;simp only at this
 split at this
 ·rename_i o ho;exact Zgc ho (by simpa using this)
 ·cases this
theorem ZbF (hc:X8 P call) (hm:P.follows .mixedOrders=true) {p:Prm} {id:Nat} {ops:Array Oper} {fr:List V} {H:List Obj} {rs} {Q:Exit->List V->List Obj->Prop} (h:Zhu P call p ops.toList fr H=some rs) (hk: ∀r∈rs,Q .normal r.1 r.2):AWP P (.region id ops true) fr H Q:=by
 obtain ⟨l⟩:=ops;simp only [Zhu] at h
 split at h
 ·rename_i hB;simp only [Bool.and_eq_true,decide_eq_true_eq] at hB;obtain ⟨hB,hR,hL,hfl⟩:=hB
  split at h
  ·rename_i fr' hf
   split at h
   ·rename_i rs1 h1
    split at h1
    ·cases h1
    ·refine Xd (t:=⟨⟩) (msS p l (QE l)) (QE l) hm hB hR hL hfl (Kb hc hf (ZiI hc h1 fun r hr L e=> ?_));obtain ⟨z,h2,h3⟩:=Yd h r hr;rw [e] at h2;exact UB hc h2 fun r hr=>hk r (h3 r hr)
   ·split at h
    ·rename_i hE;simp only [Bool.and_eq_true] at hE
     split at h
     ·rename_i rs1 h1;refine ZcH (t:=⟨⟩) (msS p l (QE l)) (ksS l (QE l) (msS p l (QE l))) (koS l fr' (ksS l (QE l) (msS p l (QE l)))) (QE l) hm hB hR hL hE.1 hfl (Kb hc hf ⟨ZhK hE.2,Zie hc h1 fun r hr=> ?_⟩);obtain ⟨z,h2,h3⟩:=Yd h r hr;exact UB hc h2 fun r hr=>hk r (h3 r hr)
     ·cases h
    ·cases h
  ·cases h
 ·cases h
end
section
variable {P : Program} {call : FuncId -> List V -> List Obj -> Option Out}
theorem Zdd (hc:X8 P call) (hm:P.follows .mixedOrders=true) {p:Prm} {id:Nat} {ops:Array Oper} {fr:List V} {H:List Obj} {rs} {Q:Exit->List V->List Obj->Prop} (h:ZeB P call p ops.toList fr H=some rs) (hk: ∀r∈rs,Q .normal r.1 r.2):AWP P (.region id ops true) fr H Q:=by
 unfold ZeB at h
 split at h
 ·rename_i r hr;simp at h;subst h;exact ZbF hc hm hr hk
 ·exact Zs (Zbm _ (fr,H)) (ZbF hc hm h hk)
end
abbrev COut := List (Exit×List V×List Obj)
def Zeo (f:List V->List Obj->Option COut):Nat->List V->List Obj->Option COut
 | 0,_,_=>none
 | n+1,fr,H=>match f fr H with
  | some rs=>KF (fun r=>match r.1 with
   | .normal=>Zeo f n r.2.1 r.2.2
   | e=>some [(e,r.2.1,r.2.2)]) rs
  | none=>none
def Zwx (id:Nat) (r:Exit×List V×List Obj):Exit×List V×List Obj:=match r.1 with
 | .exit id'=>if id'=id then (.normal,r.2) else r
 | _=>r
def nrm (rs:List (List V×List Obj)):COut:=rs.map fun r=>(.normal,r.1,r.2)
section
variable (P : Program) (call : FuncId -> List V -> List Obj -> Option Out) (p : Prm)
def Yx : Code->List V->List Obj->Option COut
 | .skip,fr,H=>some [(.normal,fr,H)]
 | .region _ ops d,fr,H=>(if d=true then ZeB P call p ops.toList fr H else QA P call (ops.toList.map (·.dst)) ops.toList fr H).map nrm
 | .seq x y,fr,H=>match Yx x fr H with
  | some rs=>KF (fun r=>match r.1 with
   | .normal=>Yx y r.2.1 r.2.2
   | e=>some [(e,r.2.1,r.2.2)]) rs
  | none=>none
 | .cond c x y,fr,H=>match ev fr c with
  | .p (.bool b)=>if b=true then Yx x fr H else Yx y fr H
  | _=>none
 | .block id c,fr,H=>match Yx c fr H with
  | some rs=>some (rs.map (Zwx id))
  | none=>none
 | .exit id,fr,H=>some [(.exit id,fr,H)]
 | .ret,fr,H=>some [(.ret,fr,H)]
 | .loop c,fr,H=>Zeo (fun fr H=>Yx c fr H) p.rounds fr H
 | _,_,_=>none
variable {P} {call} {p}
theorem Ux {c:Code} {Q Q':Exit->Act->World->Prop} (hq: ∀e a w,Q e a w->Q' e a w): ∀ {n a w},Code.rounds P c Q n a w->Code.rounds P c Q' n a w
 | 0,_,_,h=>h
 | n+1,a,w,h=>wp_mono h fun e a w q=>by
  cases e with
  | normal=>exact Ux hq q
  | _=>exact hq _ _ _ q
theorem Zeh {c:Code} {f:List V->List Obj->Option COut} (hb: ∀fr H rs,f fr H=some rs->AWP P c fr H fun e fr' H'=>(e,fr',H')∈rs): ∀ {n fr H rs},Zeo f n fr H=some rs-> ∀F ι a w,Rel F H ι w->Fr F H ι w fr a ->
  Code.rounds P c (fun e a' w'=> ∃fr' H' ι',(e,fr',H')∈rs/\Good F H ι w H' ι' w'/\Fr F H' ι' w' fr' a') n a w
 | 0,_,_,_,h=>by simp [Zeo] at h
 | n+1,fr,H,rs,h=>fun F ι a w hr hf=>by
  simp only [Zeo] at h
  split at h
  ·rename_i rs0 h0;refine wp_mono (hb fr H rs0 h0 F ι a w hr hf) ?_;rintro e a' w' ⟨fr',H',ι',hm,g,f'⟩;obtain ⟨z,h1,h2⟩:=Yd h _ hm
   cases e with
   | normal =>
    simp only at h1;exact Ux (fun e a2 w2 ⟨fr2,H2,ι2,hm2,g2,f2⟩=>⟨fr2,H2,ι2,h2 _ hm2,g.trans g2,f2⟩) (Zeh hb h1 F ι' a' w' g.rel f')
   | _ =>
    simp only [Option.some.injEq] at h1;subst h1;exact ⟨fr',H',ι',h2 _ (by simp),g,f'⟩
  ·cases h
theorem YM (hc:X8 P call) (hm:P.follows .mixedOrders=true): ∀(c:Code) (fr:List V) (H:List Obj) (rs:COut),Yx P call p c fr H=some rs->AWP P c fr H fun e fr' H'=>(e,fr',H')∈rs
 | .skip,fr,H,rs,h=>by
  simp only [Yx,Option.some.injEq] at h;subst h;exact Zbs (by simp)
 | .region id ops d,fr,H,rs,h=>by
  simp only [Yx,Option.map_eq_some_iff] at h;obtain ⟨rs0,h0,rfl⟩:=h;have hk: ∀r∈rs0,(Exit.normal,r.1,r.2)∈nrm rs0:=fun r hr=>List.mem_map.2 ⟨r,hr,rfl⟩
  cases d with
  | true=>exact Zdd (Q:=fun e fr' H'=>(e,fr',H')∈nrm rs0) hc hm (by simpa using h0) hk
  | false=>exact ZqZ (Q:=fun e fr' H'=>(e,fr',H')∈nrm rs0) (V3 hc (by simpa using h0) hk)
 | .seq x y,fr,H,rs,h=>by
  simp only [Yx] at h
  split at h
  ·rename_i rs0 h0;refine Wz ((YM hc hm x fr H rs0 h0).mono fun e fr' H' hm'=> ?_);obtain ⟨z,h1,h2⟩:=Yd h _ hm'
   cases e with
   | normal=>exact (YM hc hm y fr' H' z h1).mono fun e fr H hq=>h2 _ hq
   | _ =>
    simp only [Option.some.injEq] at h1;subst h1;exact h2 _ (by simp)
  ·cases h
 | .cond c x y,fr,H,rs,h=>by
  simp only [Yx] at h;refine Za9 ?_;unfold Wq
  split at h
  ·rename_i b hb;rw [hb];simp only
   split at h
   ·rename_i e;exact ⟨fun _=>YM hc hm x fr H rs h,fun e2=>by rw [e] at e2;cases e2⟩
   ·rename_i e;exact ⟨fun e2=>absurd e2 e,fun _=>YM hc hm y fr H rs h⟩
  ·cases h
 | .block id c,fr,H,rs,h=>by
  simp only [Yx] at h
  split at h
  ·rename_i rs0 h0;simp only [Option.some.injEq] at h;subst h;refine Kj ((YM hc hm c fr H rs0 h0).mono fun e fr' H' hm'=> ?_);have:=List.mem_map_of_mem (f:=Zwx id) hm';simp only [Zwx] at this
   cases e with
   | exit id' =>
    simp only [Y2];simp only at this
    split
    ·rename_i e;rw [if_pos e] at this;exact this
    ·rename_i e;rw [if_neg e] at this;exact this
   | _=>exact this
  ·cases h
 | .exit id,fr,H,rs,h=>by
  simp only [Yx,Option.some.injEq] at h;subst h;exact Zbb (by simp)
 | .ret,fr,H,rs,h=>by
  simp only [Yx,Option.some.injEq] at h;subst h;exact Ze1 (by simp)
 | .loop c,fr,H,rs,h=>by
  simp only [Yx] at h;exact fun F ι a w hr hf=>wp_loop_rounds _ (Zeh (fun fr H rs h=>YM hc hm c fr H rs h) h F ι a w hr hf)
 | .rangeFunc _ _ _ _,_,_,_,h=>by simp [Yx] at h
 | .scope _,_,_,_,h=>by simp [Yx] at h
 | .label _,_,_,_,h=>by simp [Yx] at h
 | .goto _,_,_,_,h=>by simp [Yx] at h
 | .refuse _,_,_,_,h=>by simp [Yx] at h
end
def fzR (n0:Nat) (s:List V×List Obj):List V×List Obj:=fzL ((List.range (s.2.length-n0)).map (n0+ ·)) s
theorem ZoE {k n0:Nat} (s:List V×List Obj):Weak k s.1 s.2 (fzR n0 s).1 (fzR n0 s).2:=Zbm _ s
theorem AWP.weakQ {P c fr H} {Q':Exit->List V->List Obj->Prop} (h:AWP P c fr H fun e fr' H'=> ∃fr'' H'',Weak H.length fr' H' fr'' H''/\Q' e fr'' H''):AWP P c fr H Q':=fun F ι a w hr hf =>
 wp_mono (h F ι a w hr hf) fun e a' w' ⟨fr',H',ι',⟨fr2,H2,hw,q⟩,g,f⟩=>by
  obtain ⟨ι2,r2,f2,g2⟩:=hw F ι' a' w' g.rel f;exact ⟨fr2,H2,ι2,q,g2 H ι w (Nat.le_refl _) g,f2⟩
def ZzB (n:Nat):Obj->Bool
 | .cells cs=>ZJ n cs
 | .bld _ _ q _=>decide (q<n)
 | _=>true
def Zwo (n:Nat) (x:V) (H:List Obj):Bool:=refB n x&&(decide (n<=H.length)&&(H.take n).all (ZzB n))
theorem Zkf {n:Nat} {x:V} {H:List Obj} (h:Zwo n x H=true):Weak n [x] H [x] (H.take n):=by
 simp only [Zwo,Bool.and_eq_true,decide_eq_true_eq,List.all_eq_true] at h;obtain ⟨h1,h2,h3⟩:=h
 have e:(H.take n).length=n:=by simp;omega
 refine Weak.of (by omega) ⟨.inr (.inl ⟨rfl,by rw [e];exact h1⟩),trivial⟩ ?_ (by simp;omega);rw [e];have:=Jq (H:=H) (n:=n) (H.take n) (H.drop n) (fun j cs hj i c hi=>ZH (h3 _ (List.mem_of_getElem? hj)) i c hi) fun j T E q bs hj=>of_decide_eq_true (h3 _ (List.mem_of_getElem? hj));rwa [List.take_append_drop] at this
def Zzs : Exit->Bool
 | .normal=>true
 | .ret=>true
 | _=>false
def ZwW (P:Program) (keep:Bool) (n0:Nat) (res:List ResultVar) (r:Exit×List V×List Obj):Option Out :=
 if Zzs r.1=true then
  match (if keep=true then none else (let s:=fzR n0 r.2
   match Xw P s.1 s.2 res with
   | some xs=>if Zwo n0 (YO xs) s.2=true then some (YO xs,s.2.take n0) else none
   | none=>none)) with
  | some z=>some [z]
  | none=>match Xw P r.2.1 r.2.2 res with
   | some xs=>some [(YO xs,r.2.2)]
   | none=>none
 else none
def Zfc (a b:V×List Obj):Bool:=V.eqb a.1 b.1&&match ZdW a.2 b.2 with | some []=>true | _=>false
theorem ZeR {a b:V×List Obj} (h:Zfc a b=true):a=b:=by
 simp only [Zfc,Bool.and_eq_true] at h;obtain ⟨h1,h2⟩:=h
 split at h2
 ·rename_i hb;have:=Wx hb;rw [List.append_nil] at this;exact Prod.ext (V.eqb_ok _ _ h1) this.symm
 ·cases h2
def Zke : Out->Out
 | []=> []
 | a::l=>if l.all (Zfc a)=true then [a] else a::l
theorem ZdH {l:Out} {a:V×List Obj} (h:a∈l):a∈Zke l:=by
 cases l with
 | nil=>exact h
 | cons b l =>
  rw [Zke]
  split
  ·rename_i XW;rcases List.mem_cons.1 h with rfl | h
   ·simp
   ·have:=ZeR (List.all_eq_true.1 XW a h);subst this;simp
  ·exact h
def ZwX (n0:Nat) (a b:V×List Obj):Bool:=V.eqb b.1 (.sl a.2.length 0 0 0)&&(decide (n0<=a.2.length)&&match ZdW a.2 b.2 with
 | some [.elems _ []]=>true
 | _=>false)
def mrg (n0:Nat) (l:Out) (a:V×List Obj):V×List Obj:=match a.1 with
 | .p (.list true [])=>match l.find? (ZwX n0 a) with
  | some b=>b
  | none=>a
 | _=>a
theorem ZnA {n0:Nat} {l:Out} (a:V×List Obj):Weak n0 [a.1] a.2 [(mrg n0 l a).1] (mrg n0 l a).2:=by
 unfold mrg
 split
 ·rename_i ha
  split
  ·rename_i b hb;have h:=List.find?_some hb;simp only [ZwX,Bool.and_eq_true,decide_eq_true_eq] at h;obtain ⟨h1,h2,h3⟩:=h
   split at h3
   ·rename_i S hbe;have e:=Wx hbe;have e1:=V.eqb_ok _ _ h1;rw [e,e1,ha];exact Weak.nil 0 S (by rfl) h2
   ·cases h3
  ·exact Weak.refl _ _ _
 ·exact Weak.refl _ _ _
def knB (g:FuncId) (args:List V) (k:FuncId×List V×V):Bool:=k.1==g&&V.eqbs k.2.1 args
def KnL (P:Program) (l:List (FuncId×List V×V)):Prop:= ∀k∈l,ACalls P k.1 k.2.1 [] (fun x H'=>x=k.2.2/\H'= [])/\ZJ 0 k.2.1=true/\ ∀n,shV n k.2.2=k.2.2
theorem KnL.cons {P:Program} {g:FuncId} {a:List V} {r:V} {l:List (FuncId×List V×V)} (h:ACalls P g a [] fun y H'=>y=r/\H'= []) (h1:ZJ 0 a=true) (h2: ∀n,shV n r=r) (t:KnL P l):KnL P ((g,a,r)::l):=fun k hk=>by
 rcases List.mem_cons.1 hk with rfl | hk
 ·exact ⟨h,h1,h2⟩
 ·exact t k hk
def Zor (P:Program) (p:Prm):Prop:=KnL P p.kn
def ZcE (P:Program) (p:Prm):Nat->FuncId->List V->List Obj->Option Out
 | 0,_,_,_=>none
 | n+1,g,args,H=>if (p.fa.contains g&& !(Kt args).isEmpty)=true then none else match p.kn.find? (knB g args) with
  | some k=>some [(k.2.2,H)]
  | none=>match P.funcs[g]? with
   | some fn => if (fn.name == "runtime.NumGoroutine") = true then none else match fn.body with
    | some c=>match Yx P (ZcE P p n) p c (args++List.replicate (fn.ntmps-args.length) .junk) H with
     | some rs=>(KF (ZwW P (p.kp.contains g) H.length fn.results.toList) rs).map fun l=>Zke (l.map (mrg H.length l))
     | none=>none
    | none=>none
   | none=>none
theorem Zf7 {P : Program} {g : FuncId} {fn : Func} {c : Code} (hf : P.funcs[g]? = some fn) (hn : (fn.name == "runtime.NumGoroutine") = false) (hb : fn.body = some c) : Zi P g := fun args w => by
 unfold callFunc;simp [hf,hb];simpa using hn
theorem Jn {P:Program} {p:Prm} (hm:P.follows .mixedOrders=true) (hkn:Zor P p): ∀n,X8 P (ZcE P p n)
 | 0=>fun g a H rs h=>by simp [ZcE] at h
 | n+1=>fun g args H rs h=>by
  simp only [ZcE] at h
  split at h
  ·cases h
  split at h
  ·rename_i k hk;simp only [Option.some.injEq] at h;subst h;obtain ⟨h1,h2,h3⟩:=hkn k (List.mem_of_find?_eq_some hk);have hb:=List.find?_some hk;simp only [knB,Bool.and_eq_true,beq_iff_eq] at hb;rw [<- hb.1,<- V.eqbs_ok _ _ hb.2];refine (h1.behind h2 H).mono ?_;rintro x H' ⟨y,H1,⟨rfl,rfl⟩,rfl,rfl⟩;rw [h3];simp
  split at h
  ·rename_i fn hf
   split at h
   ·cases h
   ·rename_i hn
    split at h
    ·rename_i c hb
     split at h
     ·rename_i rs0 h0;simp only [Option.map_eq_some_iff] at h;obtain ⟨rs1,h1,rfl⟩:=h;have hk:=YM (Jn (p:=p) hm hkn n) hm c _ H rs0 h0;refine ACalls.weak (ACalls.mono (Q:=fun x H'=>(x,H')∈rs1) ?_ fun x H' hx=>⟨_,_,ZnA (n0:=H.length) (l:=rs1) (x,H'),ZdH (List.mem_map_of_mem hx)⟩);refine ACalls.weak (Z3 hf hb (Zf7 hf (by simpa using hn) hb) (AWP.weakQ (hk.mono fun e fr' H' hmem=> ?_)));obtain ⟨z,h2,h3⟩:=Yd h1 _ hmem;simp only [ZwW] at h2
      split at h2
      ·rename_i he
       have hret: ∀ {fr H} {xs} {Q:V->List Obj->Prop},Xw P fr H fn.results.toList=some xs->Q (YO xs) H->KL P fn.results.toList Q e fr H:=fun {fr H xs Q} hx hq=>by
        cases e with
        | normal=>simp only [KL,hx];exact hq
        | ret=>simp only [KL,hx];exact hq
        | _=>cases he
       split at h2
       ·rename_i z1 hz;simp only [Option.some.injEq] at h2;subst h2
        split at hz
        ·cases hz
        ·split at hz
         ·rename_i xs hx
          split at hz
          ·rename_i hcut;simp only [Option.some.injEq] at hz;subst hz;refine ⟨_,_,ZoE (n0:=H.length) (fr',H'),hret hx ⟨_,_,Zkf hcut,?_⟩⟩;exact h3 _ (by simp)
          ·cases hz
         ·cases hz
       ·split at h2
        ·rename_i xs hx;simp only [Option.some.injEq] at h2;subst h2;exact ⟨fr',H',Weak.refl _ _ _,hret hx ⟨_,_,Weak.refl _ _ _,h3 _ (by simp)⟩⟩
        ·cases h2
      ·cases h2
     ·cases h
    ·cases h
  ·cases h
theorem Zgl {P:Program} (p:Prm) (n:Nat) {g:FuncId} (hm:P.follows .mixedOrders=true) (h:ZcE P p n g [] []=some [(.p (.bool true),[])]) (hk:Zor P p:=by simp [Zor,KnL]):ACalls P g [] [] fun y H'=>y= .p (.bool true)/\H'= [] :=
 (Jn hm hk n g [] [] _ h).mono fun x H' hm=>by
  rw [List.mem_singleton,Prod.mk.injEq] at hm;exact hm
theorem X1 {P:Program} (p:Prm) (n:Nat) {g:FuncId} {args:List V} {x:V} {H':List AM.Obj} (hm:P.follows .mixedOrders=true) (h:ZcE P p n g args []=some [(x,H')]) (hk:Zor P p:=by simp [Zor,KnL]):ACalls P g args [] fun y H=>y=x/\H=H' :=
 (Jn hm hk n g args [] _ h).mono fun y H hq=>by
  rw [List.mem_singleton,Prod.mk.injEq] at hq;exact hq
end Go.AM
