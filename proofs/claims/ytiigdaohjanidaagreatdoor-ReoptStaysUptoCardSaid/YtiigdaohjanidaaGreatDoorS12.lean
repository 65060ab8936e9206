/- Declarations that the closing texts need, part 12: joined by tools/slim.py. -/
import Derived.Test.YtiigdaohjanidaaGreatDoorS11
import Derived.LoopN
set_option linter.unusedVariables false
set_option linter.unusedSimpArgs false
namespace Go.AM
open Go.RowKit
mutual
def PV.eqb : PV->PV->Bool
 | .int k n,.int k' n'=>decide (k=k')&&decide (n=n')
 | .bool b,.bool b'=>b==b'
 | .str s,.str s'=>decide (s=s')
 | .list c l,.list c' l'=>c==c'&&PV.eqbs l l'
 | .agg l,.agg l'=>PV.eqbs l l'
 | .nilp,.nilp=>true
 | .nili,.nili=>true
 | .nilf,.nilf=>true
 | .nilm,.nilm=>true
 | .fn f,.fn f'=>decide (f=f')
 | _,_=>false
def PV.eqbs : List PV->List PV->Bool
 | [],[]=>true
 | x::l,y::l'=>PV.eqb x y&&PV.eqbs l l'
 | _,_=>false
end
mutual
theorem PV.eqb_ok : ∀x y:PV,PV.eqb x y=true->x=y:=fun x y h=>by
 cases x<;>cases y<;>simp only [PV.eqb,Zy,Zp,beq_iff_eq,Yh] at h
 ·grind
 ·subst h;rfl
 ·subst h;rfl
 ·obtain ⟨rfl,h⟩:=h;rw [PV.eqbs_ok _ _ h]
 ·rw [PV.eqbs_ok _ _ h]
 ·rfl
 ·rfl
 ·rfl
 ·rfl
 grind
theorem PV.eqbs_ok : ∀x y:List PV,PV.eqbs x y=true->x=y
 | [],[],_=>rfl
 | x::l,y::l',h=>by
  simp only [PV.eqbs,Zy] at h;rw [PV.eqb_ok x y h.1,PV.eqbs_ok l l' h.2]
 | [],_::_,h=>by simp [PV.eqbs] at h
 | _::_,[],h=>by simp [PV.eqbs] at h
end
mutual
def V.eqb : V->V->Bool
 | .p x,.p y=>PV.eqb x y
 | .agg l,.agg l'=>V.eqbs l l'
 | .fn (.func f) a b,.fn (.func f') a' b'=>decide (f=f')&&(V.eqbs a a'&&V.eqbs b b')
 | .ptr o i,.ptr o' i'=>decide (o=o')&&decide (i=i')
 | .ep o i j t,.ep o' i' j' t'=>decide (o=o')&&(decide (i=i')&&(decide (j=j')&&decide (t=t')))
 | .sl o i j t,.sl o' i' j' t'=>decide (o=o')&&(decide (i=i')&&(decide (j=j')&&decide (t=t')))
 | .lp x i,.lp x' i'=>PV.eqb x x'&&decide (i=i')
 | .tup l,.tup l'=>V.eqbs l l'
 | .mp o,.mp o'=>decide (o=o')
 | .bp o,.bp o'=>decide (o=o')
 | .junk,.junk=>true
 | _,_=>false
def V.eqbs : List V->List V->Bool
 | [],[]=>true
 | x::l,y::l'=>V.eqb x y&&V.eqbs l l'
 | _,_=>false
end
mutual
theorem V.eqb_ok : ∀x y:V,V.eqb x y=true->x=y:=fun x y h=>by
 unfold V.eqb at h
 split at h<;>try simp only [Zy,Zp,Yh] at h
 ·rw [PV.eqb_ok _ _ h]
 ·rw [V.eqbs_ok _ _ h]
 ·obtain ⟨rfl,h1,h2⟩:=h;rw [V.eqbs_ok _ _ h1,V.eqbs_ok _ _ h2]
 ·grind
 ·grind
 ·grind
 ·obtain ⟨h1,rfl⟩:=h;rw [PV.eqb_ok _ _ h1]
 ·rw [V.eqbs_ok _ _ h]
 ·rw [h]
 ·rw [h]
 ·rfl
theorem V.eqbs_ok : ∀x y:List V,V.eqbs x y=true->x=y
 | [],[],_=>rfl
 | x::l,y::l',h=>by
  simp only [V.eqbs,Zy] at h;rw [V.eqb_ok x y h.1,V.eqbs_ok l l' h.2]
 | [],_::_,h=>by simp [V.eqbs] at h
 | _::_,[],h=>by simp [V.eqbs] at h
end
def Cd : List (PV×PV)->List (PV×PV)->Bool
 | [],[]=>true
 | x::l,y::l'=>(PV.eqb x.1 y.1&&PV.eqb x.2 y.2)&&Cd l l'
 | _,_=>false
theorem Gq : ∀x y,Cd x y=true->x=y
 | [],[],_=>rfl
 | x::l,y::l',h=>by
  simp only [Cd,Zy] at h;rw [Prod.ext (PV.eqb_ok _ _ h.1.1) (PV.eqb_ok _ _ h.1.2),Gq l l' h.2]
 | [],_::_,h=>by simp [Cd] at h
 | _::_,[],h=>by simp [Cd] at h
def Obj.eqb : Obj->Obj->Bool
 | .cells l,.cells l'=>V.eqbs l l'
 | .elems s l,.elems s' l'=>decide (s=s')&&PV.eqbs l l'
 | .map l,.map l'=>Cd l l'
 | .dead,.dead=>true
 | _,_=>false
theorem Obj.eqb_ok (x y:Obj) (h:Obj.eqb x y=true):x=y:=by
 unfold Obj.eqb at h
 split at h<;>try simp only [Zy,Zp,Yh] at h
 ·rw [V.eqbs_ok _ _ h]
 ·obtain ⟨rfl,h⟩:=h;rw [PV.eqbs_ok _ _ h]
 ·rw [Gq _ _ h]
 ·rfl
def DB : List Obj->List Obj->Option (List Obj)
 | [],r=>some r
 | x::l,y::r=>if Obj.eqb x y=true then DB l r else none
 | _::_,[]=>none
theorem QK : ∀ {l r k:List Obj},DB l r=some k->r=l++k
 | [],r,k,h=>by grind [DB]
 | x::l,y::r,k,h=>by
  simp only [DB] at h
  split at h
  ·rename_i he;rw [Obj.eqb_ok _ _ he,QK h];rfl
  ·cases h
 | _::_,[],k,h=>by simp [DB] at h
def Js {α β:Type} (f:α->Option (List β)):List α->Option (List β)
 | []=>some []
 | a::l=>match f a with
  | some x=>match Js f l with
   | some y=>some (x++y)
   | none=>none
  | none=>none
theorem WW {α β:Type} {f:α->Option (List β)} : ∀ {l:List α} {rs:List β},Js f l=some rs-> ∀a∈l,∃x,f a=some x/\ ∀b∈x,b∈rs
 | [],_,_,a,ha=>by simp at ha
 | c::l,rs,h,a,ha=>by
  simp only [Js] at h
  split at h
  ·rename_i x hx
   split at h
   ·rename_i y hy;simp at h;subst h;rcases XR.1 ha with rfl | ha
    ·grind
    ·obtain ⟨z,h1,h2⟩:=WW hy a ha
     grind
   ·cases h
  ·cases h
theorem QI {P o fr H} {K K':V->List Obj->Prop} (hk: ∀x H',K x H'->K' x H') (h:Zs P o fr H K):Zs P o fr H K':=by
 unfold Zs at h ⊢
 split
 ·rename_i f azs ho;rw [ho] at h;simp only at h;unfold KQ at h ⊢
  split at h
  ·exact h.mono hk
  ·exact h.mono hk
  omega
 grind
abbrev Out := List (V×List Obj)
def WB (P:Program) (call:FuncId->List V->List Obj->Option Out):Prop:= ∀g a H rs,call g a H=some rs->ACalls P g a H fun x H'=>(x,H')∈rs
section
variable (P : Program) (call : FuncId -> List V -> List Obj -> Option Out)
def Qy (o:Oper) (fr:List V) (H:List Obj):Option Out :=
 match Yu o.op with
 | some (f,azs)=>match ev fr f with
  | .fn (.func g) fs cs=>call g (fs++azs.map (ev fr)++cs) H
  | .p (.fn g)=>call g (azs.map (ev fr)) H
  | _=>none
 | none=>match GV P o.op fr H with
  | some r=>some [r]
  | none=>none
def FA (ds:List (Option Nat)):List Oper->List V->List Obj->Option (List (List V×List Obj))
 | [],fr,H=>some [(fr,H)]
 | o::r,fr,H=>match o.guard with
  | none=>match Qy P call o fr H with
   | some xs=>Js (fun x=>FA ds r (YZ fr o.dst x.1) x.2) xs
   | none=>none
  | some (j,b)=>match BQ fr ds j with
   | .p (.bool c)=>if c=b then (match Qy P call o fr H with
     | some xs=>Js (fun x=>FA ds r (YZ fr o.dst x.1) x.2) xs
     | none=>none) else FA ds r (YZ fr o.dst (.tup [])) H
   | .tup []=>FA ds r (YZ fr o.dst (.tup [])) H
   | _=>none
variable {P} {call}
theorem J5 (hc:WB P call) {o fr H rs} (h:Qy P call o fr H=some rs):Zs P o fr H fun x H'=>(x,H')∈rs:=by
 unfold Qy at h;unfold Zs
 split at h
 ·rename_i f azs ho;rw [ho];simp only;unfold KQ
  split at h
  ·rename_i hf;rw [hf];exact hc _ _ _ _ h
  ·rename_i hf;rw [hf];exact hc _ _ _ _ h
  ·cases h
 grind
theorem BP (hc:WB P call) {ds:List (Option Nat)} : ∀ {l:List Oper} {fr:List V} {H:List Obj} {rs} {K:List V->List Obj->Prop},FA P call ds l fr H=some rs->(∀r∈rs,K r.1 r.2)->Yy P ds l fr H K
 | [],fr,H,rs,K,h,hk=>by
  simp only [FA,XQ] at h;subst h;exact hk (fr,H) Zb
 | o::l,fr,H,rs,K,h,hk=>by
  have step: ∀ {rs},(match Qy P call o fr H with | some xs=>Js (fun x=>FA P call ds l (YZ fr o.dst x.1) x.2) xs | none=>none)=some rs->(∀r∈rs,K r.1 r.2)->Zs P o fr H fun x H'=>Yy P ds l (YZ fr o.dst x) H' K:=fun {rs} h hk=>by
   split at h
   ·rename_i xs hx;refine QI (fun x H' hm=> ?_) (J5 hc hx);obtain ⟨z,h1,h2⟩:=WW h _ hm;exact BP hc h1 fun r hr=>hk r (h2 r hr)
   ·cases h
  simp only [FA] at h;simp only [Yy]
  split at h
  ·rename_i hg;rw [hg];exact step h hk
  ·rename_i j b hg;rw [hg];simp only;unfold Xv
   split at h
   ·rename_i c hc';rw [hc'];simp only
    split at h
    ·rename_i hcb;exact ⟨fun _=>step h hk,fun e=>absurd hcb e⟩
    ·rename_i hcb;exact ⟨fun e=>absurd e hcb,fun _=>BP hc h hk⟩
   ·rename_i hc';rw [hc'];exact BP hc h hk
   ·cases h
end
mutual
/-- a value, where the own row o is a value from now on, wherever it stands -/
def fzD (o:Nat) (xs:List PV):V->V
 | .sl o' off len tot=>if o'=o/\xs.length=tot/\off+len<=tot then .p (.list false ((xs.take (off+len)).drop off)) else .sl o' off len tot
 | .agg cs=>mkA (fzDs o xs cs)
 | .tup cs=> .tup (fzDs o xs cs)
 | .p x=> .p x
 | .fn f a b=> .fn f a b
 | .ptr a b=> .ptr a b
 | .ep a b c d=> .ep a b c d
 | .lp a b=> .lp a b
 | .mp a=> .mp a
 | .bp a=> .bp a
 | .junk=> .junk
def fzDs (o:Nat) (xs:List PV):List V->List V
 | []=> []
 | x::l=>fzD o xs x::fzDs o xs l
end
theorem DR {o:Nat} {xs:List PV} : ∀l:List V,fzDs o xs l=l.map (fzD o xs)
 | []=>by rfl
 | x::l=>by rw [fzDs,DR l];rfl
theorem Weak.fzD {n0 fr H} (o:Nat) {S:Nat} {xs:List PV} (ho:H[o]? =some (.elems S xs)):Weak n0 fr H (fr.map (AM.fzD o xs)) ((H.map (Jn (AM.fzD o xs))).set o .dead) :=
 Weak.fzG (AM.fzD o xs) o ho fun {F H' ι ι' w} hX hHX row {x v} hv=>by
  have sl: ∀ {o' off len tot v},RV F H ι w (.sl o' off len tot) v->RV F H' ι' w (AM.fzD o xs (.sl o' off len tot)) v:=fun {o' off len tot v} hv=>by
   rw [AM.fzD]
   split
   ·grind
   ·exact hv.ext hX hHX
  induction hv with
  | agg cs a hs _ ih =>
   rw [AM.fzD,DR];refine NI (by grind) fun j c hj=> ?_
   grind
  | tup cs a hs _ ih =>
   rw [AM.fzD,DR];refine .tup _ _ (by grind) fun j c hj=> ?_
   grind
  | slNil o S a h hH=>exact sl (.slNil o S a h hH)
  | sl o off len tot b S cap t xs c h hH ht hw hcap hl hlen hm=>exact sl (.sl o off len tot b S cap t xs c h hH ht hw hcap hl hlen hm)
  | slD o off len tot v h=>exact sl (.slD o off len tot v h)
  | slS o off len tot v S xs h hne=>exact sl (.slS o off len tot v S xs h hne)
  | slC o tot b cap cs h hH hl hm=>exact sl (.slC o tot b cap cs h hH hl hm)
  | p x v h=>rw [AM.fzD];exact (RV.p x v h).ext hX hHX
  | fn f cs ds a e hs ht hr hq _ _=>rw [AM.fzD];exact (RV.fn f cs ds a e hs ht hr hq).ext hX hHX
  | ptr o off b cs h hH=>rw [AM.fzD];exact (RV.ptr o off b cs h hH).ext hX hHX
  | ep o i j tot b S xs h hH ht=>rw [AM.fzD];exact (RV.ep o i j tot b S xs h hH ht).ext hX hHX
  | lp x j b off u hX' hb hu hr=>rw [AM.fzD];exact (RV.lp x j b off u hX' hb hu hr).ext hX hHX
  | mp o b es h hH=>rw [AM.fzD];exact (RV.mp o b es h hH).ext hX hHX
  | bp o b T E r bs h hH=>rw [AM.fzD];exact (RV.bp o b T E r bs h hH).ext hX hHX
  | bpD o v h=>rw [AM.fzD];exact (RV.bpD o v h).ext hX hHX
  | junk v=>rw [AM.fzD];exact .junk v
  | mpD o v h=>rw [AM.fzD];exact (RV.mpD o v h).ext hX hHX
  | ptrD o off v h=>rw [AM.fzD];exact (RV.ptrD o off v h).ext hX hHX
  | epD o i j tot v h=>rw [AM.fzD];exact (RV.epD o i j tot v h).ext hX hHX
  | epS o i j tot v S xs h hne=>rw [AM.fzD];exact (RV.epS o i j tot v S xs h hne).ext hX hHX
def fz1 (s:List V×List Obj) (o:Nat):List V×List Obj:=match oat s.2 o with
 | .elems _ xs=>(s.1.map (fzD o xs),(s.2.map (Jn (fzD o xs))).set o .dead)
 | _=>s
theorem uD {n0:Nat} (s:List V×List Obj) (o:Nat):Weak n0 s.1 s.2 (fz1 s o).1 (fz1 s o).2:=by
 grind [fz1,Weak.fzD,Z2,Weak.refl]
def qD (os:List Nat) (s:List V×List Obj):List V×List Obj:=os.foldl fz1 s
theorem Hp {n0:Nat} : ∀(os:List Nat) (s:List V×List Obj),Weak n0 s.1 s.2 (qD os s).1 (qD os s).2
 | [],s=>Weak.refl _ _ _
 | o::os,s=>(uD s o).trans (Hp os _)
mutual
def LM : V->List Nat
 | .sl o _ _ _=> [o]
 | .agg cs=>Ez cs
 | .tup cs=>Ez cs
 | _=> []
def Ez : List V->List Nat
 | []=> []
 | x::l=>LM x++Ez l
end
def B9 (o:Oper) (fr:List V) (H:List Obj):List Nat:=match o.op with
 | .call { callee:= .builtin .append,args:=azs,.. } =>(((azs.toList.drop 1).flatMap X3).map (gt fr)).flatMap LM
 | .call { callee:= .builtin .copy,args:=azs,.. } =>(((azs.toList.drop 1).flatMap X3).map (gt fr)).flatMap LM
 | .load _ x=>match ev fr x with
  | .ptr q _=>match oat H q with
   | .cells cs=>Ez cs
   | _=> []
  | y=>LM y
 | op=>((Wt op).map (gt fr)).flatMap LM
def WL (P:Program) (ops:Array Oper) (l:List Oper) (fr:List V) (H:List Obj) (K:List V->List Obj->Prop):Prop :=
 ∀(Q:Exit->Act->World->Prop) F ι a w,Rel F H ι w->Fr F H ι w fr a->(∀fr' H' ι' a' w',K fr' H'->Good F H ι w H' ι' w'->Fr F H' ι' w' fr' a'->Q .normal a' w')->wpList P ops Q l a w
def WR (P:Program) (ops:Array Oper) (o:Oper) (l:List Oper) (fr:List V) (H:List Obj) (K:List V->List Obj->Prop):Prop :=
 ∀(Q:Exit->Act->World->Prop) F ι a w,Rel F H ι w->Fr F H ι w fr a->(∀fr' H' ι' a' w',K fr' H'->Good F H ι w H' ι' w'->Fr F H' ι' w' fr' a'->Q .normal a' w')->o.wp P a w (wpList P ops Q l) Q
section
variable {P : Program} {ops : Array Oper} {l : List Oper} {o : Oper} {fr : List V} {H : List Obj} {K : List V -> List Obj -> Prop}
theorem WL.nil (h:K fr H):WL P ops [] fr H K:=fun Q F ι a w hr hf hq=>hq fr H ι a w h (Good.refl hr) hf
theorem WR.weak {fr' H'} (hw:Weak H.length fr H fr' H') (h:WR P ops o l fr' H' K):WR P ops o l fr H K:=fun Q F ι a w hr hf hq=>by
 obtain ⟨ι',r,f,g⟩:=hw F ι a w hr hf;exact h Q F ι' a w r f fun fr2 H2 ι2 a2 w2 k g2 f2=>hq fr2 H2 ι2 a2 w2 k ((g H ι w (Zx _) (Good.refl hr)).trans g2) f2
theorem WR.step (h:Zs P o fr H fun x H'=>WL P ops l (YZ fr o.dst x) H' K):WR P ops o l fr H K:=fun Q F ι a w hr hf hq =>
 Us h hr hf fun x H' ι' v w' hk g r=>hk Q F ι' _ w' g.rel ((g.fr hf).put o.dst r) fun fr2 H2 ι2 a2 w2 k g2 f2=>hq fr2 H2 ι2 a2 w2 k (g.trans g2) f2
theorem WR.opX {B:V->List Obj->Prop} (hp:OpX P o fr H B) (hk: ∀y H2,B y H2->WL P ops l (YZ fr o.dst y) H2 K):WR P ops o l fr H K:=fun Q F ι a w hr hf hq=>by
 obtain ⟨y,H2,nx,v,ι2,w2,hB,hrun,e2,g2,hrv⟩:=hp F ι a w hr hf;have go: ∀v,RV F H2 ι2 w2 y v->wpList P ops Q l (a.put o.dst v) w2:=fun v hrv=>hk y H2 hB Q F ι2 _ w2 g2.rel ((g2.fr hf).put o.dst hrv) fun fr3 H3 ι3 a3 w3 k g3 f3=>hq fr3 H3 ι3 a3 w3 k (g2.trans g3) f3;unfold Oper.wp;rw [hrun];rcases e2 with rfl | ⟨rfl,rfl⟩
 ·exact go v hrv
 ·exact go undef hrv
theorem WL.cons (hg:o.guard=none) (h:WR P ops o l fr H K):WL P ops (o::l) fr H K:=fun Q F ι a w hr hf hq=>by
 simp only [wpList]
 have hw:Region.wanted o (yielded ops a.tmps)=true:=by simp [Region.wanted,hg]
 rw [if_pos hw];exact .inl (h Q F ι a w hr hf hq)
theorem WL.consB {j:Nat} {b c:Bool} (hg:o.guard=some (j,b)) (hc:BQ fr (ops.toList.map (·.dst)) j= .p (.bool c)) (h1:c=b->WR P ops o l fr H K) (h2:c≠b->WL P ops l (YZ fr o.dst (.tup [])) H K):WL P ops (o::l) fr H K:=fun Q F ι a w hr hf hq=>by
 simp only [wpList];have hy:=WI hf hc
 by_cases hcb:c=b
 ·have hw:Region.wanted o (yielded ops a.tmps)=true:=by grind [Region.wanted]
  rw [if_pos hw];exact .inl (h1 hcb Q F ι a w hr hf hq)
 ·have hw: ¬(Region.wanted o (yielded ops a.tmps)=true):=by grind [Region.wanted]
  rw [if_neg hw];exact h2 hcb Q F ι _ w hr (hf.put o.dst YV) hq
theorem WL.consS {j:Nat} {b:Bool} (hg:o.guard=some (j,b)) (hc:BQ fr (ops.toList.map (·.dst)) j= .tup []) (h:WL P ops l (YZ fr o.dst (.tup [])) H K):WL P ops (o::l) fr H K:=fun Q F ι a w hr hf hq=>by
 simp only [wpList];have hy:=YE hf hc
 have hw: ¬(Region.wanted o (yielded ops a.tmps)=true):=by simp [Region.wanted,hg,hy]
 rw [if_neg hw];exact h Q F ι _ w hr (hf.put o.dst YV) hq
theorem sS {id:Nat} {Q:Exit->List V->List Obj->Prop} (h:WL P ops ops.toList fr H (Q .normal)):AWP P (.region id ops false) fr H Q:=fun F ι a w hr hf =>
 wp_region_list (h _ F ι a w hr hf fun fr' H' ι' _ _ k g f=>⟨fr',H',ι',k,g,f⟩)
end
theorem OpS.opX {P o fr H y H'} (h:OpS P o fr H y H'):OpX P o fr H fun x K=>x=y/\K=H':=fun F ι a w hr hf=>by
 obtain ⟨nx,v,ι',w',e,e2,g,r⟩:=h F ι a w hr hf
 grind
theorem OpN.opX {P o fr H B} (h:OpN P o fr H B):OpX P o fr H fun x K=>B x/\K=H:=fun F ι a w hr hf=>by
 obtain ⟨x,v,hB,e,r⟩:=h F ι a w hr hf;exact ⟨x,H,_,v,ι,w,⟨hB,rfl⟩,e,.inl rfl,Good.refl hr,r⟩
theorem OpX.mono {P o fr H} {B B':V->List Obj->Prop} (h:OpX P o fr H B) (hb: ∀x K,B x K->B' x K):OpX P o fr H B':=fun F ι a w hr hf=>by
 obtain ⟨y,H',nx,v,ι',w',q,r⟩:=h F ι a w hr hf
 grind
theorem RQ {P:Program} {o:Oper} {fr:List V} {H:List Obj} (t e:TypeId) (x y:Operand) (m by' S:Nat) (z:PV) (h:o.op= .makeSlice t x y) (hu:P.underlying t=some (.slice e)) (hs:Yx P e=some S) (hzv:zval P e=some z) (hb:(P.info? e).map (·.bytes)=some by') (hS0:0<S) (hzl:z.cells.length=S) (hz1:z.cells.all (·.one)=true)
  (hby:by'*m<=281474976710656) (hm2:m<=281474976710656) (hX:ev fr x= .p (.int .i64 0)) (hY:ev fr y= .p (.int .i64 m)):OpS P o fr H (.sl H.length 0 0 0) (H++ [.elems S []]):=fun F ι a w hr hf=>by
 have hx:=hf.ev x;have hy:=hf.ev y;rw [hX] at hx;rw [hY] at hy
 cases hx with | p _ _ hx=>cases hy with | p _ _ hy =>
 obtain ⟨zz,hzz⟩: ∃zz,((P.info? e).bind (·.zero))=some zz:=by
  grind [zval,Yw]
 have hrz:RP (Own F ι) w z zz:=KE hzz hzv;obtain ⟨z1,z2⟩:=W8 hrz hz1;simp only [Yw] at hzz;obtain ⟨ie,hie,hzz⟩:=hzz;simp [hie] at hb
 let arr:Array Value:=(Array.range (m*S)).map (zz.cells[· %zz.cells.size]!)
 have g:=WN (H:=H) hr (Pushed.alloc w arr e) (.elems S []) ⟨m,by simp [arr],Zb,by unfold maxLen;omega,(fun i q hi=>by simp at hi),fun i q j c hi hj=>by simp at hi⟩;refine ⟨_,.slice (some ⟨w.heap.size,0,none⟩) 0 m,_,_,?_,.inl rfl,g,?_⟩
 ·have hw:IntKind.i64.wrap (m:Int)=m:=IntWalk.i64_in _ Za;have hw0:IntKind.i64.wrap (0:Int)=0:=rfl
  have h1: ¬((m:Int)<0):=Za
  have h2: ¬(281474976710656<((ie.bytes:Int)*(m:Int))):=by
   grind
  by_cases h0:m*S=0
  ·have e9:Array.range 0= #[]:=by rfl
   simp [execOp,h,hx.int_inv,hy.int_inv,Instr.makeSlice,asInt,asIntOf,run_underlying hu,typeInfo,hie,hw,hw0,h1,h2,Xz hs,h0,newRow,e9,arr]
  ·simp [execOp,h,hx.int_inv,hy.int_inv,Instr.makeSlice,asInt,asIntOf,run_underlying hu,typeInfo,hie,hw,hw0,h1,h2,Xz hs,h0,zeroValue,hzz,newRow,arr]
 ·have:=RV.sl (F:=F) (w:=w.alloc (.cells arr e)) (H:=H++ [.elems S []]) (ι:=ι++ [some w.heap.size]) H.length 0 0 0 w.heap.size S m e [] arr (by rw [<- hr.len];simp) Zb Zb (Pushed.new (Pushed.alloc w arr e)) (by simp [arr]) Za Za (by unfold maxLen;omega)
  grind
theorem dK {P:Program} {o:Oper} {fr:List V} {H:List Obj} {t t2 e:TypeId} {x y:Operand} {S:Nat} (h:o.op= .call { callee:= .builtin .append,args:= #[x,y],argTypes:= #[t,t2] }) (hu:P.underlying t=some (.slice e)) (hs:Yx P e=some S) (hS:0<S)
  (hx:ev fr x= .p (.list true [])) (hsrc:Fa P H t2 (ev fr y)=some []):OpS P o fr H (.p (.list true [])) H:=fun F ι a w hr hf=>by
 have h1:=hf.ev x;have h2:=hf.ev y;rw [hx] at h1;obtain ⟨news,src⟩:=fQ hsrc (by simp [Bh]) hS hr h2;have hn0:news= []:=Yb (by have:=src.len;grind);subst hn0;have e1:=src.first w rfl;simp at e1;have e3:=src.lenOf w;simp only [ZA] at e3
 suffices hh: ∃ad cap,a.eval x= .slice ad 0 cap by
  obtain ⟨ad,cap,ev'⟩:=hh
  have hrun:(Builtin.append_ #[t,t2] o.type #[a.eval x,a.eval y]).run P w= .ok (.slice ad 0 cap) w:=by
   rw [ev']
   rcases src.ty with hu2 | ⟨e2,hu2⟩<;>cases ad <;>
    simp [Builtin.append_,run_underlying hu,run_underlying hu2,Xz hs,e3,e1,storeCells]
  exact ⟨_,.slice ad 0 cap,ι,w,by simp [execOp,h,resolve,invoke,builtin,hrun],.inl rfl,Good.refl hr,by grind⟩
 cases h1 with | p _ _ h1 =>
 generalize a.eval x=vx at h1
 cases h1 with
 | nils=>simp
 | emp=>simp
 | list _ _ b off cap=>simp
def GL (P:Program) (o:Oper) (fr:List V) (H:List Obj):Option Out :=
 match o.op with
 | .binOp .eql t x (.const (.slice none 0 0)) _=>match P.underlying t,ev fr x with
  | some (.slice _),.p (.list _ xs)=>some (if xs.isEmpty=true then [(.p (.bool true),H),(.p (.bool false),H)] else [(.p (.bool false),H)])
  | _,_=>none
 | .binOp .neq t x (.const (.slice none 0 0)) _=>match P.underlying t,ev fr x with
  | some (.slice _),.p (.list _ xs)=>some (if xs.isEmpty=true then [(.p (.bool true),H),(.p (.bool false),H)] else [(.p (.bool true),H)])
  | _,_=>none
 | .call { callee:= .builtin .copy,args:=azs,argTypes:=ts } =>match azs.toList,ts.toList with
  | [x,y],[t,_]=>match P.underlying t with
   | some (.slice e)=>match (P.info? e).map (·.size),ev fr x,ev fr y with
    | some S,.sl ob i n m,.p (.list _ ys)=>match oat H ob with
     | .elems S' xs=>if (n=0\/ys.isEmpty=true)/\xs.length=m then some [(.p (.int .i64 0),H)] else if S'=S/\0<S/\i=0/\n=m/\xs.length=n/\ys.length<=n/\0<ys.length/\(ys.all fun q=>decide (q.cells.length=S)&&q.cells.all (·.one))=true then some [(.p (.int .i64 (ys.length:Nat)),H.set ob (.elems S (ys++xs.drop ys.length)))] else none
     | _=>none
    | some 1,.sl ob i n m,.sl ob' 0 n' m'=>match oat H ob with
     | .elems 1 xs=>if ob'=ob/\m'=m/\xs.length=m/\0<Nat.min n' n/\(xs.all (·.one))=true then some [(.p (.int .i64 (Nat.min n' n:Nat)),H.set ob (.elems 1 (xs.take i++xs.take (Nat.min n' n)++xs.drop (i+Nat.min n' n))))] else none
     | _=>none
    | _,_,_=>none
   | _=>none
  | _,_=>none
 | .call { callee:= .builtin .append,args:=azs,argTypes:=ts } =>match azs.toList,ts.toList with
  | [x,y],[t,t2]=>match P.underlying t with
   | some (.slice e)=>match Yx P e,ev fr x,Fa P H t2 (ev fr y) with
    | some S,.p (.list true []),some []=>if 0<S then some [(.p (.list true []),H)] else none
    | _,_,_=>none
   | _=>none
  | _,_=>none
 | .makeSlice t x y=>match P.underlying t with
  | some (.slice e)=>match P.underlying e,Yx P e,zval P e,(P.info? e).map (·.bytes),ev fr x,ev fr y with
   | some (.slice _),some 1,some z,some by',.p (.int .i64 n),.p (.int .i64 m)=>if 0<=n/\m=n/\z.one=true/\by'*n.toNat<=281474976710656/\n.toNat<=281474976710656 then some [(.sl H.length 0 n.toNat n.toNat,H++ [.cells (List.replicate n.toNat (.p z))])] else none
   | _,_,_,_,_,_=>none
  | _=>none
 | _=>none
theorem gJ {P o fr H rs} (h:GL P o fr H=some rs):OpX P o fr H fun x K=>(x,K)∈rs:=by
 unfold GL at h
 split at h
 ·rename_i t x t2 ho
  split at h
  ·rename_i e c xs hu hx;simp at h;subst h;refine (O0 ho hu hx fun a=>rfl).opX.mono ?_;rintro y K ⟨⟨b,rfl,hb⟩,rfl⟩
   cases xs with
   | nil=>simp
   | cons z zs =>
    grind
  ·cases h
 ·rename_i t x t2 ho
  split at h
  ·rename_i e c xs hu hx;simp at h;subst h;refine (dJ ho hu hx fun a=>rfl).opX.mono ?_;rintro y K ⟨⟨b,rfl,hb⟩,rfl⟩
   cases xs with
   | nil=>simp
   | cons z zs =>
    grind
  ·cases h
 ·rename_i azs ts ho
  split at h
  ·rename_i x y t t2 e1 e2
   split at h
   ·rename_i e hu
    split at h
    ·rename_i S ob i n m c ys hs hx hy;obtain ⟨azs⟩:=azs;obtain ⟨ts⟩:=ts;simp at e1 e2;subst e1;subst e2
     split at h
     ·rename_i S' xs hH
      split at h
      ·rename_i hc;obtain ⟨h1,h2⟩:=hc;simp at h;subst h;refine (RO ho hu hs hx hy (Z2 hH Zb) h2 (h1.imp id List.isEmpty_iff.1)).opX.mono ?_;simp
      ·split at h
       ·rename_i hc;obtain ⟨rfl,h1,rfl,rfl,h2,h3,h4,h5⟩:=hc;simp at h;subst h;refine (RN ho hu hs h1 hx hy (Z2 hH Zb) h2 h3 h4 fun q hq=> ?_).opX.mono ?_
        ·grind
        simp
       ·cases h
     ·cases h
    ·rename_i ob i n m ob' n' m' hs hx hy;obtain ⟨azs⟩:=azs;obtain ⟨ts⟩:=ts;simp at e1 e2;subst e1;subst e2
     split at h
     ·rename_i xs hH
      split at h
      ·rename_i hc;obtain ⟨rfl,rfl,h1,h2,h3⟩:=hc;simp at h;subst h;refine (RM ho hu hs hx hy (Z2 hH Zb) h1 rfl h2 fun q hq=>Zu.1 h3 q hq).opX.mono ?_;simp
      ·cases h
     ·cases h
    ·cases h
   ·cases h
  ·cases h
 ·rename_i azs ts ho
  split at h
  ·rename_i x y t t2 e1 e2
   split at h
   ·rename_i e hu
    split at h
    ·rename_i S hs hx hy
     split at h
     ·rename_i hS;simp at h;subst h;obtain ⟨azs⟩:=azs;obtain ⟨ts⟩:=ts;simp at e1 e2;subst e1;subst e2;refine (dK ho hu hs hS hx hy).opX.mono ?_;simp
     ·cases h
    ·cases h
   ·cases h
  ·cases h
 ·rename_i t x y ho
  split at h
  ·rename_i e hu
   split at h
   ·rename_i z by' n m _ hs hz hb hx hy
    split at h
    ·rename_i hc;obtain ⟨h1,rfl,h2,h3,h4⟩:=hc;simp at h;subst h
     have en:((m.toNat:Nat):Int)=m:=Za
     refine (Gl t e x y m.toNat by' z ho hu hs hz hb h2 h3 h4 (by rw [hx,en]) (by rw [hy,en])).opX.mono ?_;simp
    ·cases h
   ·cases h
  ·cases h
 ·cases h
def SD (P:Program) (o:Oper) (fr:List V) (H:List Obj):Option Out:=match o.op with
 | .makeSlice t x y=>match P.underlying t,ev fr x,ev fr y with
  | some (.slice e),.p (.int .i64 0),.p (.int .i64 m)=>match Yx P e,zval P e,(P.info? e).map (·.bytes) with
   | some S,some z,some by'=>if 0<m/\0<S/\z.cells.length=S/\z.cells.all (·.one)=true/\by'*m.toNat<=281474976710656/\m.toNat<=281474976710656 then some [(.sl H.length 0 0 0,H++ [.elems S []])] else none
   | _,_,_=>none
  | _,_,_=>none
 | _=>none
theorem oD {P o fr H rs} (h:SD P o fr H=some rs):OpX P o fr H fun x K=>(x,K)∈rs:=by
 unfold SD at h
 split at h
 ·rename_i t x y ho
  split at h
  ·rename_i e m hu hx hy
   split at h
   ·rename_i S z by' hs hz hb
    split at h
    ·rename_i hc;obtain ⟨h0,h1,h2,h3,h4,h5⟩:=hc;simp at h;subst h
     have en:((m.toNat:Nat):Int)=m:=Za
     refine (RQ t e x y m.toNat by' S z ho hu hs hz hb h1 h2 h3 h4 h5 hx (by rw [hy,en])).opX.mono ?_;simp
    ·cases h
   ·cases h
  ·cases h
 ·cases h
def Fz (P:Program) (o:Oper) (fr:List V) (H:List Obj):Option Out:=match SD P o fr H with
 | some r=>some r
 | none=>GL P o fr H
theorem Pn {P o fr H rs} (h:Fz P o fr H=some rs):OpX P o fr H fun x K=>(x,K)∈rs:=by
 grind [Fz,oD,gJ]
section
variable (P : Program) (call : FuncId -> List V -> List Obj -> Option Out)
def oF (o:Oper) (fr:List V) (H:List Obj):Option Out:=match o.op with
 | .makeSlice _ _ _=>match Fz P o fr H with
  | some r=>some r
  | none=>Qy P call o fr H
 | .call { callee:= .builtin .append,.. } =>match Fz P o fr H with
  | some r=>some r
  | none=>Qy P call o fr H
 | _=>match Qy P call o fr H with
  | some r=>some r
  | none=>Fz P o fr H
def gN (o:Oper) (fr:List V) (H:List Obj):Option ((List V×List Obj)×Out):=match oF P call o fr H with
 | some xs=>some ((fr,H),xs)
 | none=>match oF P call o (qD (B9 o fr H) (fr,H)).1 (qD (B9 o fr H) (fr,H)).2 with
  | some xs=>some (qD (B9 o fr H) (fr,H),xs)
  | none=>none
def BN (ds:List (Option Nat)):List Oper->List V->List Obj->Option (List (List V×List Obj))
 | [],fr,H=>some [(fr,H)]
 | o::r,fr,H=>match o.guard with
  | none=>match gN P call o fr H with
   | some (s,xs)=>Js (fun x=>BN ds r (YZ s.1 o.dst x.1) x.2) xs
   | none=>none
  | some (j,b)=>match BQ fr ds j with
   | .p (.bool c)=>if c=b then (match gN P call o fr H with
     | some (s,xs)=>Js (fun x=>BN ds r (YZ s.1 o.dst x.1) x.2) xs
     | none=>none) else BN ds r (YZ fr o.dst (.tup [])) H
   | .tup []=>BN ds r (YZ fr o.dst (.tup [])) H
   | _=>none
variable {P} {call}
theorem Po (hc:WB P call) {ops:Array Oper} {l:List Oper} {o fr H rs} {K:List V->List Obj->Prop} (h:oF P call o fr H=some rs) (hk: ∀r∈rs,WL P ops l (YZ fr o.dst r.1) r.2 K):WR P ops o l fr H K:=by
 have h1: ∀ {rs},Qy P call o fr H=some rs->(∀r∈rs,WL P ops l (YZ fr o.dst r.1) r.2 K)->WR P ops o l fr H K:=fun h hk=>WR.step (QI (fun x H' hm=>hk _ hm) (J5 hc h));have h2: ∀ {rs},Fz P o fr H=some rs->(∀r∈rs,WL P ops l (YZ fr o.dst r.1) r.2 K)->WR P ops o l fr H K:=fun h hk=>WR.opX (Pn h) fun y H2 hm=>hk _ hm
 grind [oF]
theorem oE (hc:WB P call) {ops:Array Oper} {l:List Oper} {o fr H s rs} {K:List V->List Obj->Prop} (h:gN P call o fr H=some (s,rs)) (hk: ∀r∈rs,WL P ops l (YZ s.1 o.dst r.1) r.2 K):WR P ops o l fr H K:=by
 unfold gN at h
 split at h
 ·rename_i xs hx;simp only [XQ,VZ] at h;obtain ⟨rfl,rfl⟩:=h;exact Po hc hx hk
 ·split at h
  ·rename_i xs hx;simp only [XQ,VZ] at h;obtain ⟨rfl,rfl⟩:=h;exact (Po hc hx hk).weak (Hp (B9 o fr H) (fr,H))
  ·cases h
theorem BO (hc:WB P call) {ops:Array Oper} : ∀ {l:List Oper} {fr:List V} {H:List Obj} {rs} {K:List V->List Obj->Prop},BN P call (ops.toList.map (·.dst)) l fr H=some rs->(∀r∈rs,K r.1 r.2)->WL P ops l fr H K
 | [],fr,H,rs,K,h,hk=>by
  simp only [BN,XQ] at h;subst h
  simp_all [WL.nil]
 | o::l,fr,H,rs,K,h,hk=>by
  have step: ∀ {rs},(match gN P call o fr H with | some (s,xs)=>Js (fun x=>BN P call (ops.toList.map (·.dst)) l (YZ s.1 o.dst x.1) x.2) xs | none=>none)=some rs->(∀r∈rs,K r.1 r.2)->WR P ops o l fr H K:=fun {rs} h hk=>by
   split at h
   ·rename_i s xs hx;refine oE hc hx fun r hr=> ?_;obtain ⟨z,h1,h2⟩:=WW h r hr;exact BO hc h1 fun r hr=>hk r (h2 r hr)
   ·cases h
  simp only [BN] at h
  split at h
  ·rename_i hg;exact WL.cons hg (step h hk)
  ·rename_i j b hg
   split at h
   ·rename_i c hc';refine WL.consB hg hc' (fun e=> ?_) fun e=> ?_
    ·rw [if_pos e] at h;exact step h hk
    ·rw [if_neg e] at h;exact BO hc h hk
   ·rename_i hc';exact WL.consS hg hc' (BO hc h hk)
   ·cases h
end
structure Prm where
 kp:List FuncId:= []
 lt:List FuncId:= []
 lh:List FuncId:= []
 kn:List (FuncId×List V×V):= []
 fa:List FuncId:= []
 lb:Bool:=false
 rounds:Nat:=100000
def lateH? (p:Prm):Op->Bool
 | .call { callee:= .value (.func g),.. } =>p.lh.contains g
 | _=>false
def Zgn (p:Prm):Op->Bool
 | .alloc _=>true
 | .box _ _=>true
 | .store _ _ _=>true
 | .makeSlice _ _ _=>true
 | .buildSlice _ _ _=>p.lb
 | .mapUpdate _ _ _ _=>true
 | .makeMap _ _=>true
 | .mapEntry _ _ _=>true
 | .entryStore _ _ _ _=>true
 | .call { callee:= .builtin .append,.. } =>true
 | .call { callee:= .builtin .copy,.. } =>true
 | .call { callee:= .value (.tmp _),.. } =>true
 | .call { callee:= .value (.func g),.. } =>p.lh.contains g||p.lt.contains g
 | _=>false
def msS (p:Prm) (l:List Oper) (n:Nat):List Nat:=(List.range n).foldl (fun ms i=>if (Zgn p (ZU l i).op||(Wt (ZU l i).op).any fun t=>ms.any fun m=>decide ((ZU l m).dst=some t))=true then ms++ [i] else ms) []
def AW (l:List Oper):Nat:=((List.range (l.length+1)).find? fun n=>decide (0<n)&&Vc (List.toArray l) n).getD 0
section
variable (P : Program) (call : FuncId -> List V -> List Obj -> Option Out)
def E3 (o:Oper) (fr:List V) (H:List Obj):Option V :=
 match o.op with
 | .buildSlice t n ps=>match Ip (U3 P t) H n (ps.toList.map fun x=>(x.1,ev fr x.2)) with
  | some x=>some (.p x)
  | none=>none
 | .call { callee:= .builtin .append,args:=azs,argTypes:=ts } =>match azs.toList,ts.toList with
  | [x,y],[t,t2]=>match Vf P H t t2 (ev fr x) (ev fr y) with
   | some (.sl o i n m,H')=>match DB H H' with
    | some [.elems _ zs]=>if o=H.length/\i=0/\n=zs.length/\m=zs.length then some (.p (.list false zs)) else none
    | _=>none
   | _=>none
  | _,_=>none
 | op=>match Yu op with
  | none=>match Z4 P op fr H with
   | some y=>some y
   | none=>match Wg P op fr H with
    | some (y,H')=>match DB H H' with
     | some []=>some y
     | _=>none
    | none=>none
  | some _=>match Qy P call o fr H with
   | some [(y,H')]=>match DB H H' with
    | some []=>some y
    | _=>none
   | _=>none
def oC (ds:List (Option Nat)) (H:List Obj):List Oper->List V->Option (List V)
 | [],fr=>some fr
 | o::r,fr=>match o.guard with
  | none=>match E3 P call o fr H with
   | some y=>oC ds H r (YZ fr o.dst y)
   | none=>none
  | some (j,b)=>match BQ fr ds j with
   | .p (.bool c)=>if c=b then (match E3 P call o fr H with
     | some y=>oC ds H r (YZ fr o.dst y)
     | none=>none) else oC ds H r (YZ fr o.dst (.tup []))
   | .tup []=>oC ds H r (YZ fr o.dst (.tup []))
   | _=>none
def xlT (H:List Obj) (l:List Oper):Nat->List Nat->List V->List Obj->Option (List (List V×List Obj))
 | 0,_,fr,L=>some [(fr,H++L)]
 | n+1,rem,fr,L=>Js (fun m=>match Qy P call (ZU l m) fr (H++L) with
  | some [(y,H')]=>match DB H H' with
   | some L'=>xlT H l n (rem.erase m) (YZ fr (ZU l m).dst y) L'
   | none=>none
  | _=>none) (Vs l rem)
def Za8 (o:Oper) (fr:List V) (H:List Obj):Option Out:=match Qy P call o fr H with
 | some xs=>some xs
 | none=>Fz P o fr H
def xlC (ko:List Nat) (l:List Oper):Nat->List Nat->List V->List Obj->Option (List (List V×List Obj))
 | 0,_,fr,H=>some [(fr,H)]
 | n+1,rem,fr,H=>Js (fun m=>match Za8 P call (ZU l m) fr H with
  | some xs=>if (xs.all fun x=>ko.all fun k=>Obj.eqb (oat x.2 k) (oat H k))=true then Js (fun x=>xlC ko l n (rem.erase m) (YZ fr (ZU l m).dst x.1) x.2) xs else none
  | none=>none) (Vs l rem)
def ksS (l:List Oper) (n:Nat) (ms:List Nat):List Nat:=(List.range n).filter fun i=> !ms.contains i&&(!Jy (ZU l i).op&& !(ms.all fun m=>Cr l n i m))
def koV : V->Option Nat
 | .ptr o _=>some o
 | .sl o _ n m=>if n=m then some o else none
 | _=>none
def koS (l:List Oper) (fr:List V) (ks:List Nat):List Nat:=ks.filterMap fun i=>match ldP (ZU l i) with
 | some p=>koV (gt fr p)
 | none=>none
def qJ (l:List Oper) (fr:List V) (ks ko:List Nat):Bool:=ks.all fun i=>match ldP (ZU l i) with
 | some p=>match koV (gt fr p) with
  | some o=>ko.contains o
  | none=>false
 | none=>true
def Pm (p:Prm) (l:List Oper) (fr:List V) (H:List Obj):Option (List (List V×List Obj)) :=
 let n:=AW l
 let ms:=msS p l n
 if (Vc (List.toArray l) n&&(JS (List.toArray (VC ms l)) n&&(DZ l n ms&&decide (fr.length<=1000000))))=true then
  match oC P call (l.map (·.dst)) H ((VC ms l).take n) fr with
  | some fr'=>match (if (ms.any fun m=>lateH? p (ZU l m).op)=true then none else xlT P call H l ms.length ms fr' []) with
   | some rs=>Js (fun r=>FA P call (l.map (·.dst)) (l.drop n) r.1 r.2) rs
   | none=>if (evC l n ms (ksS l n ms)&&qJ l fr' (ksS l n ms) (koS l fr' (ksS l n ms)))=true then (match xlC P call (koS l fr' (ksS l n ms)) l ms.length ms fr' H with
    | some rs=>Js (fun r=>FA P call (l.map (·.dst)) (l.drop n) r.1 r.2) rs
    | none=>none) else none
  | none=>none
 else none
def NU (p:Prm) (l:List Oper) (fr:List V) (H:List Obj):Option (List (List V×List Obj)):=match Pm P call p l fr H with
 | some rs=>some rs
 | none=>Pm P call p l (qD (l.flatMap fun o=>B9 o fr H) (fr,H)).1 (qD (l.flatMap fun o=>B9 o fr H) (fr,H)).2
variable {P} {call}
theorem PF {o fr H K} (h1: ∀t n ps,o.op≠ .buildSlice t n ps) (h2: ∀azs ts,o.op≠ .call { callee:= .builtin .append,args:=azs,argTypes:=ts }) (h:Zs P o fr H K):ZB P o fr H K:=by
 grind [ZB]
theorem SE (hc:WB P call) {o fr H y} (h:E3 P call o fr H=some y):ZB P o fr H fun x H'=>x=y/\H'=H:=by
 unfold E3 at h
 split at h
 ·grind [ZB]
 ·rename_i azs ts ho;unfold ZB;rw [ho];simp only
  split at h
  ·rename_i x y t t2 e1 e2;rw [e1,e2];simp only
   split at h
   ·rename_i o' i n m H' ha
    split at h
    ·rename_i S zs hb
     split at h
     ·rename_i hcnd;obtain ⟨rfl,rfl,rfl,rfl⟩:=hcnd
      grind [QK]
     ·cases h
    ·cases h
   ·cases h
  ·cases h
 ·rename_i op h1 h2;refine PF h1 h2 ?_
  split at h
  ·rename_i hcl;unfold Zs;rw [hcl];simp only [GV]
   split at h
   ·grind
   ·rename_i hz;rw [hz]
    split at h
    ·rename_i z H' hm;rw [hm]
     split at h
     ·rename_i hb;simp at h;subst h;have e:=QK hb
      grind
     ·cases h
    ·cases h
  ·split at h
   ·rename_i z H' hx
    split at h
    ·rename_i hb;simp at h;subst h;refine QI (fun x K hm=> ?_) (J5 hc hx);rw [List.mem_singleton,VZ] at hm;refine ⟨hm.1,?_⟩;rw [hm.2,QK hb,Uj]
    ·cases h
   ·cases h
theorem E2 (hc:WB P call) {ds:List (Option Nat)} {H:List Obj} : ∀ {l:List Oper} {fr fr':List V} {K:List V->Prop},oC P call ds H l fr=some fr'->K fr'->hs P ds H K l fr
 | [],fr,fr',K,h,hk=>by
  simp only [oC,XQ] at h;subst h;exact hk
 | o::l,fr,fr',K,h,hk=>by
  have step:(match E3 P call o fr H with | some y=>oC P call ds H l (YZ fr o.dst y) | none=>none)=some fr'->SL (fun y=>ZB P o fr H (fun x H'=>x=y/\H'=H)) (fun y=>hs P ds H K l (YZ fr o.dst y)):=fun h=>by
   split at h
   ·rename_i y hy;exact ⟨y,SE hc hy,E2 hc h hk⟩
   ·cases h
  simp only [oC] at h;simp only [hs]
  split at h
  ·rename_i hg;rw [hg];exact step h
  ·rename_i j b hg;rw [hg];simp only;unfold Xv
   split at h
   ·rename_i c hc';rw [hc'];simp only
    split at h
    ·rename_i hcb;exact ⟨fun _=>step h,fun e=>absurd hcb e⟩
    ·rename_i hcb;exact ⟨fun e=>absurd e hcb,fun _=>E2 hc h hk⟩
   ·rename_i hc';rw [hc'];exact E2 hc h hk
   ·cases h
theorem L7 (hc:WB P call) {o fr H y H'} (h:Qy P call o fr H=some [(y,H')]):Zs P o fr H fun x K=>x=y/\K=H' :=
 QI (fun x K hm=>by grind) (J5 hc h)
theorem gM (hc:WB P call) {H:List Obj} {l:List Oper} : ∀ {n:Nat} {rem:List Nat} {fr:List V} {L:List Obj} {rs} {K:List V->List Obj->Prop},xlT P call H l n rem fr L=some rs->(∀r∈rs,∀L,r.2=H++L->K r.1 L)->Qk P H l n rem fr L K
 | 0,rem,fr,L,rs,K,h,hk=>by
  simp only [xlT,XQ] at h;subst h;exact hk (fr,H++L) Zb L rfl
 | n+1,rem,fr,L,rs,K,h,hk=>fun m hm=>by
  simp only [xlT] at h;obtain ⟨z,h1,h2⟩:=WW h m hm
  split at h1
  ·rename_i y H' hx
   split at h1
   ·rename_i L' hb;have e:=QK hb;subst e;exact ⟨y,L',L7 hc hx,gM hc h1 fun r hr=>hk r (h2 r hr)⟩
   ·cases h1
  ·cases h1
theorem Mn {P:Program} {o:Oper} {f1 f2:List V} {H:List Obj} (h:Vw (Wt o.op) f1 f2):GL P o f1 H=GL P o f2 H:=by
 have key: ∀x:Operand,(∀t∈X3 x,t∈Wt o.op)->ev f1 x=ev f2 x:=fun x hx=>Ue fun t ht=>h t (hx t ht);unfold GL
 split
 ·grind [Wt]
 ·grind [Wt]
 ·rename_i azs ts ho
  split
  ·rename_i x y t t2 e1 e2;obtain ⟨azs⟩:=azs;simp only at e1;rw [key x fun t ht=>by grind [Wt],key y fun t ht=>by grind [Wt]]
  ·rfl
 ·rename_i azs ts ho
  split
  ·simp_all [Wt]
  ·rfl
 ·rename_i t x y ho;rw [key x fun t ht=>by grind [Wt],key y fun t ht=>by grind [Wt]]
 ·rfl
theorem NW {P:Program} {o:Oper} {f1 f2:List V} {H:List Obj} (h:Vw (Wt o.op) f1 f2):SD P o f1 H=SD P o f2 H:=by
 have key: ∀x:Operand,(∀t∈X3 x,t∈Wt o.op)->ev f1 x=ev f2 x:=fun x hx=>Ue fun t ht=>h t (hx t ht);unfold SD
 split
 ·rename_i t x y ho;rw [key x fun t ht=>by grind [Wt],key y fun t ht=>by grind [Wt]]
 ·rfl
theorem NV {P:Program} {o:Oper} {f1 f2:List V} {H:List Obj} (h:Vw (Wt o.op) f1 f2):Fz P o f1 H=Fz P o f2 H:=by
 grind [Fz,NW,Mn]
theorem oG {P:Program} {call:FuncId->List V->List Obj->Option Out} (hc:WB P call) {o fr H rs} (h:Za8 P call o fr H=some rs):stX P o fr H fun x K=>(x,K)∈rs:=by
 unfold Za8 at h
 split at h
 ·rename_i xs hx;simp only [XQ] at h;subst h;exact .inl (J5 hc hx)
 ·exact .inr fun f2 h2=>Pn (by grind [NV])
theorem gK (hc:WB P call) {ko:List Nat} {l:List Oper} : ∀ {n:Nat} {rem:List Nat} {fr:List V} {H:List Obj} {rs} {K:List V->List Obj->Prop},xlC P call ko l n rem fr H=some rs->(∀r∈rs,K r.1 r.2)->KU P ko l n rem fr H K
 | 0,rem,fr,H,rs,K,h,hk=>by
  simp only [xlC,XQ] at h;subst h;exact hk (fr,H) Zb
 | n+1,rem,fr,H,rs,K,h,hk=>fun m hm=>by
  simp only [xlC] at h;obtain ⟨z,h1,h2⟩:=WW h m hm
  split at h1
  ·rename_i xs hx
   split at h1
   ·rename_i X9;refine ⟨_,oG hc hx,fun y H' hmem=> ?_⟩;obtain ⟨u,h3,h4⟩:=WW h1 _ hmem;refine ⟨fun k hk=>Obj.eqb_ok _ _ (Zu.1 (Zu.1 X9 _ hmem) k hk),gK hc h3 fun r hr=>hk r (h2 r (h4 r hr))⟩
   ·cases h1
  ·cases h1
theorem bW {ko:List Nat} {x:V} {o:Nat} (h:koV x=some o) (hk:o∈ko):DX ko x:=by
 unfold koV at h
 grind [V4,bS]
theorem bR {l:List Oper} {fr:List V} {ks ko:List Nat} (h:qJ l fr ks ko=true): ∀k∈ks,∀p,ldP (ZU l k)=some p->DX ko (gt fr p):=fun k hk p hp=>by
 have:=Zu.1 h k hk
 grind [bW]
theorem Mm (hc:WB P call) (hm:P.follows .mixedOrders=true) {p:Prm} {id:Nat} {ops:Array Oper} {fr:List V} {H:List Obj} {rs} {Q:Exit->List V->List Obj->Prop} (h:Pm P call p ops.toList fr H=some rs) (hk: ∀r∈rs,Q .normal r.1 r.2):AWP P (.region id ops true) fr H Q:=by
 obtain ⟨l⟩:=ops;simp only [Pm] at h
 split at h
 ·rename_i hB;simp only [Zy,Zp] at hB;obtain ⟨hB,hR,hL,hfl⟩:=hB
  split at h
  ·rename_i fr' hf
   split at h
   ·rename_i rs1 h1
    split at h1
    ·cases h1
    ·refine XX (t:=⟨⟩) (msS p l (AW l)) (AW l) hm hB hR hL hfl (E2 hc hf (gM hc h1 fun r hr L e=> ?_));obtain ⟨z,h2,h3⟩:=WW h r hr;rw [e] at h2;exact BP hc h2 fun r hr=>hk r (h3 r hr)
   ·split at h
    ·rename_i hE;simp only [Zy] at hE
     split at h
     ·rename_i rs1 h1;refine K3 (t:=⟨⟩) (msS p l (AW l)) (ksS l (AW l) (msS p l (AW l))) (koS l fr' (ksS l (AW l) (msS p l (AW l)))) (AW l) hm hB hR hL hE.1 hfl (E2 hc hf ⟨bR hE.2,gK hc h1 fun r hr=> ?_⟩);obtain ⟨z,h2,h3⟩:=WW h r hr;exact BP hc h2 fun r hr=>hk r (h3 r hr)
     ·cases h
    ·cases h
  ·cases h
 ·cases h
end
section
variable {P : Program} {call : FuncId -> List V -> List Obj -> Option Out}
theorem SC (hc:WB P call) (hm:P.follows .mixedOrders=true) {p:Prm} {id:Nat} {ops:Array Oper} {fr:List V} {H:List Obj} {rs} {Q:Exit->List V->List Obj->Prop} (h:NU P call p ops.toList fr H=some rs) (hk: ∀r∈rs,Q .normal r.1 r.2):AWP P (.region id ops true) fr H Q:=by
 unfold NU at h
 split at h
 ·grind [Mm]
 ·exact Zr (Hp _ (fr,H)) (Mm hc hm h hk)
end
abbrev COut := List (Exit×List V×List Obj)
def Lh (f:List V->List Obj->Option COut):Nat->List V->List Obj->Option COut
 | 0,_,_=>none
 | n+1,fr,H=>match f fr H with
  | some rs=>Js (fun r=>match r.1 with
   | .normal=>Lh f n r.2.1 r.2.2
   | e=>some [(e,r.2.1,r.2.2)]) rs
  | none=>none
def sW (id:Nat) (r:Exit×List V×List Obj):Exit×List V×List Obj:=match r.1 with
 | .exit id'=>if id'=id then (.normal,r.2) else r
 | _=>r
def nrm (rs:List (List V×List Obj)):COut:=rs.map fun r=>(.normal,r.1,r.2)
section
variable (P : Program) (call : FuncId -> List V -> List Obj -> Option Out) (p : Prm)
def Wz : Code->List V->List Obj->Option COut
 | .skip,fr,H=>some [(.normal,fr,H)]
 | .region _ ops d,fr,H=>(if d=true then NU P call p ops.toList fr H else BN P call (ops.toList.map (·.dst)) ops.toList fr H).map nrm
 | .seq x y,fr,H=>match Wz x fr H with
  | some rs=>Js (fun r=>match r.1 with
   | .normal=>Wz y r.2.1 r.2.2
   | e=>some [(e,r.2.1,r.2.2)]) rs
  | none=>none
 | .cond c x y,fr,H=>match ev fr c with
  | .p (.bool b)=>if b=true then Wz x fr H else Wz y fr H
  | _=>none
 | .block id c,fr,H=>match Wz c fr H with
  | some rs=>some (rs.map (sW id))
  | none=>none
 | .exit id,fr,H=>some [(.exit id,fr,H)]
 | .ret,fr,H=>some [(.ret,fr,H)]
 | .loop c,fr,H=>Lh (fun fr H=>Wz c fr H) p.rounds fr H
 | _,_,_=>none
variable {P} {call} {p}
theorem CG {c:Code} {Q Q':Exit->Act->World->Prop} (hq: ∀e a w,Q e a w->Q' e a w): ∀ {n a w},Code.rounds P c Q n a w->Code.rounds P c Q' n a w
 | 0,_,_,h=>h
 | n+1,a,w,h=>wp_mono h fun e a w q=>by
  cases e with
  | normal=>exact CG hq q
  | _=>exact hq _ _ _ q
theorem OJ {c:Code} {f:List V->List Obj->Option COut} (hb: ∀fr H rs,f fr H=some rs->AWP P c fr H fun e fr' H'=>(e,fr',H')∈rs): ∀ {n fr H rs},Lh f n fr H=some rs-> ∀F ι a w,Rel F H ι w->Fr F H ι w fr a ->
  Code.rounds P c (fun e a' w'=> ∃fr' H' ι',(e,fr',H')∈rs/\Good F H ι w H' ι' w'/\Fr F H' ι' w' fr' a') n a w
 | 0,_,_,_,h=>by simp [Lh] at h
 | n+1,fr,H,rs,h=>fun F ι a w hr hf=>by
  simp only [Lh] at h
  split at h
  ·rename_i rs0 h0;refine wp_mono (hb fr H rs0 h0 F ι a w hr hf) ?_;rintro e a' w' ⟨fr',H',ι',hm,g,f'⟩;obtain ⟨z,h1,h2⟩:=WW h _ hm
   cases e with
   | normal =>
    simp only at h1;exact CG (fun e a2 w2 ⟨fr2,H2,ι2,hm2,g2,f2⟩=>⟨fr2,H2,ι2,h2 _ hm2,g.trans g2,f2⟩) (OJ hb h1 F ι' a' w' g.rel f')
   | _ =>
    simp only [XQ] at h1;subst h1;exact ⟨fr',H',ι',h2 _ Zb,g,f'⟩
  ·cases h
theorem Ut (hc:WB P call) (hm:P.follows .mixedOrders=true): ∀(c:Code) (fr:List V) (H:List Obj) (rs:COut),Wz P call p c fr H=some rs->AWP P c fr H fun e fr' H'=>(e,fr',H')∈rs
 | .skip,fr,H,rs,h=>by
  grind [Wz,IB]
 | .region id ops d,fr,H,rs,h=>by
  simp only [Wz,ZL] at h;obtain ⟨rs0,h0,rfl⟩:=h;have hk: ∀r∈rs0,(Exit.normal,r.1,r.2)∈nrm rs0:=fun r hr=>XM.2 ⟨r,hr,rfl⟩
  grind [SC,sS,BO]
 | .seq x y,fr,H,rs,h=>by
  simp only [Wz] at h
  split at h
  ·rename_i rs0 h0;refine Vt ((Ut hc hm x fr H rs0 h0).mono fun e fr' H' hm'=> ?_);obtain ⟨z,h1,h2⟩:=WW h _ hm'
   cases e with
   | normal=>exact (Ut hc hm y fr' H' z h1).mono fun e fr H hq=>h2 _ hq
   | _ =>
    simp only [XQ] at h1;subst h1;exact h2 _ Zb
  ·cases h
 | .cond c x y,fr,H,rs,h=>by
  simp only [Wz] at h;refine Ix ?_;unfold Vx
  split at h
  ·rename_i b hb;rw [hb];simp only
   split at h
   ·rename_i e;exact ⟨fun _=>Ut hc hm x fr H rs h,fun e2=>by rw [e] at e2;cases e2⟩
   ·rename_i e;exact ⟨fun e2=>absurd e2 e,fun _=>Ut hc hm y fr H rs h⟩
  ·cases h
 | .block id c,fr,H,rs,h=>by
  simp only [Wz] at h
  split at h
  ·rename_i rs0 h0;simp only [XQ] at h;subst h;refine FH ((Ut hc hm c fr H rs0 h0).mono fun e fr' H' hm'=> ?_);have:=List.mem_map_of_mem (f:=sW id) hm';simp only [sW] at this
   cases e with
   | exit id' =>
    simp only [Ua];simp only at this
    split
    ·rename_i e;rw [if_pos e] at this;exact this
    ·rename_i e;rw [if_neg e] at this;exact this
   | _=>exact this
  ·cases h
 | .exit id,fr,H,rs,h=>by
  grind [Wz,Iy]
 | .ret,fr,H,rs,h=>by
  grind [Wz,Ob]
 | .loop c,fr,H,rs,h=>by
  simp only [Wz] at h;exact fun F ι a w hr hf=>wp_loop_rounds _ (OJ (fun fr H rs h=>Ut hc hm c fr H rs h) h F ι a w hr hf)
 | .rangeFunc _ _ _ _,_,_,_,h=>by simp [Wz] at h
 | .scope _,_,_,_,h=>by simp [Wz] at h
 | .label _,_,_,_,h=>by simp [Wz] at h
 | .goto _,_,_,_,h=>by simp [Wz] at h
 | .refuse _,_,_,_,h=>by simp [Wz] at h
end
def fzR (n0:Nat) (s:List V×List Obj):List V×List Obj:=qD ((List.range (s.2.length-n0)).map (n0+ ·)) s
theorem uE {k n0:Nat} (s:List V×List Obj):Weak k s.1 s.2 (fzR n0 s).1 (fzR n0 s).2:=Hp _ s
theorem AWP.weakQ {P c fr H} {Q':Exit->List V->List Obj->Prop} (h:AWP P c fr H fun e fr' H'=> ∃fr'' H'',Weak H.length fr' H' fr'' H''/\Q' e fr'' H''):AWP P c fr H Q':=fun F ι a w hr hf =>
 wp_mono (h F ι a w hr hf) fun e a' w' ⟨fr',H',ι',⟨fr2,H2,hw,q⟩,g,f⟩=>by
  obtain ⟨ι2,r2,f2,g2⟩:=hw F ι' a' w' g.rel f
  grind
def Zk8 (n:Nat):Obj->Bool
 | .cells cs=>Xe n cs
 | .bld _ _ q _=>decide (q<n)
 | _=>true
def tR (n:Nat) (x:V) (H:List Obj):Bool:=refB n x&&(decide (n<=H.length)&&(H.take n).all (Zk8 n))
theorem jY {n:Nat} {x:V} {H:List Obj} (h:tR n x H=true):Weak n [x] H [x] (H.take n):=by
 simp only [tR,Zy,Zp,Zu] at h;obtain ⟨h1,h2,h3⟩:=h
 have e:(H.take n).length=n:=by simp;omega
 refine Weak.of Za ⟨.inr (.inl ⟨rfl,by grind⟩),trivial⟩ ?_ (by simp;omega);rw [e];have:=E0 (H:=H) (n:=n) (H.take n) (H.drop n) (fun j cs hj i c hi=>Xm (h3 _ (Xj hj)) i c hi) fun j T E q bs hj=>A9 (h3 _ (Xj hj))
 simp_all
def ZkE : Exit->Bool
 | .normal=>true
 | .ret=>true
 | _=>false
def Zfr (P:Program) (keep:Bool) (n0:Nat) (res:List ResultVar) (r:Exit×List V×List Obj):Option Out :=
 if ZkE r.1=true then
  match (if keep=true then none else (let s:=fzR n0 r.2
   match Yr P s.1 s.2 res with
   | some xs=>if tR n0 (W5 xs) s.2=true then some (W5 xs,s.2.take n0) else none
   | none=>none)) with
  | some z=>some [z]
  | none=>match Yr P r.2.1 r.2.2 res with
   | some xs=>some [(W5 xs,r.2.2)]
   | none=>none
 else none
def Nn (a b:V×List Obj):Bool:=V.eqb a.1 b.1&&match DB a.2 b.2 with | some []=>true | _=>false
theorem RW {a b:V×List Obj} (h:Nn a b=true):a=b:=by
 simp only [Nn,Zy] at h;obtain ⟨h1,h2⟩:=h
 split at h2
 ·rename_i hb;have:=QK hb
  grind [V.eqb_ok]
 ·cases h2
def T1 : Out->Out
 | []=> []
 | a::l=>if l.all (Nn a)=true then [a] else a::l
theorem Ry {l:Out} {a:V×List Obj} (h:a∈l):a∈T1 l:=by
 cases l with
 | nil=>exact h
 | cons b l =>
  rw [T1]
  split
  ·rename_i X9;rcases XR.1 h with rfl | h
   ·simp
   grind [RW]
  ·exact h
def Zgy (n0:Nat) (a b:V×List Obj):Bool:=V.eqb b.1 (.sl a.2.length 0 0 0)&&(decide (n0<=a.2.length)&&match DB a.2 b.2 with
 | some [.elems _ []]=>true
 | _=>false)
def mrg (n0:Nat) (l:Out) (a:V×List Obj):V×List Obj:=match a.1 with
 | .p (.list true [])=>match l.find? (Zgy n0 a) with
  | some b=>b
  | none=>a
 | _=>a
theorem Zap {n0:Nat} {l:Out} (a:V×List Obj):Weak n0 [a.1] a.2 [(mrg n0 l a).1] (mrg n0 l a).2:=by
 unfold mrg
 split
 ·rename_i ha
  split
  ·rename_i b hb;have h:=Uz hb;simp only [Zgy,Zy,Zp] at h;obtain ⟨h1,h2,h3⟩:=h
   split at h3
   ·rename_i S hbe;have e:=QK hbe;have e1:=V.eqb_ok _ _ h1;rw [e,e1,ha];exact Weak.nil 0 S (by rfl) h2
   ·cases h3
  simp [Weak.refl]
 simp [Weak.refl]
def knB (g:FuncId) (args:List V) (k:FuncId×List V×V):Bool:=k.1==g&&V.eqbs k.2.1 args
def KnL (P:Program) (l:List (FuncId×List V×V)):Prop:= ∀k∈l,ACalls P k.1 k.2.1 [] (fun x H'=>x=k.2.2/\H'= [])/\Xe 0 k.2.1=true/\ ∀n,shV n k.2.2=k.2.2
theorem KnL.cons {P:Program} {g:FuncId} {a:List V} {r:V} {l:List (FuncId×List V×V)} (h:ACalls P g a [] fun y H'=>y=r/\H'= []) (h1:Xe 0 a=true) (h2: ∀n,shV n r=r) (t:KnL P l):KnL P ((g,a,r)::l):=fun k hk=>by
 rcases XR.1 hk with rfl | hk
 ·grind
 ·exact t k hk
def SQ (P:Program) (p:Prm):Prop:=KnL P p.kn
def GK (P:Program) (p:Prm):Nat->FuncId->List V->List Obj->Option Out
 | 0,_,_,_=>none
 | n+1,g,args,H=>if (p.fa.contains g&& !(Ez args).isEmpty)=true then none else match p.kn.find? (knB g args) with
  | some k=>some [(k.2.2,H)]
  | none=>match P.funcs[g]? with
   | some fn => if (fn.name == "runtime.NumGoroutine") = true then none else match fn.body with
    | some c=>match Wz P (GK P p n) p c (args++List.replicate (fn.ntmps-args.length) .junk) H with
     | some rs=>(Js (Zfr P (p.kp.contains g) H.length fn.results.toList) rs).map fun l=>T1 (l.map (mrg H.length l))
     | none=>none
    | none=>none
   | none=>none
theorem bO {P : Program} {g : FuncId} {fn : Func} {c : Code} (hf : P.funcs[g]? = some fn) (hn : (fn.name == "runtime.NumGoroutine") = false) (hb : fn.body = some c) : Zi P g := fun args w => by
 unfold callFunc;simp [hf,hb]
 grind
theorem E1 {P:Program} {p:Prm} (hm:P.follows .mixedOrders=true) (hkn:SQ P p): ∀n,WB P (GK P p n)
 | 0=>fun g a H rs h=>by simp [GK] at h
 | n+1=>fun g args H rs h=>by
  simp only [GK] at h
  split at h
  ·cases h
  split at h
  ·rename_i k hk;simp only [XQ] at h;subst h;obtain ⟨h1,h2,h3⟩:=hkn k (QX hk);have hb:=Uz hk;simp only [knB,Zy,beq_iff_eq] at hb;rw [<- hb.1,<- V.eqbs_ok _ _ hb.2];refine (h1.behind h2 H).mono ?_
   grind
  split at h
  ·rename_i fn hf
   split at h
   ·cases h
   ·rename_i hn
    split at h
    ·rename_i c hb
     split at h
     ·rename_i rs0 h0;simp only [ZL] at h;obtain ⟨rs1,h1,rfl⟩:=h;have hk:=Ut (E1 (p:=p) hm hkn n) hm c _ H rs0 h0;refine ACalls.weak (ACalls.mono (Q:=fun x H'=>(x,H')∈rs1) ?_ fun x H' hx=>⟨_,_,Zap (n0:=H.length) (l:=rs1) (x,H'),Ry (List.mem_map_of_mem hx)⟩);refine ACalls.weak (X8 hf hb (bO hf (by grind) hb) (AWP.weakQ (hk.mono fun e fr' H' hmem=> ?_)));obtain ⟨z,h2,h3⟩:=WW h1 _ hmem;simp only [Zfr] at h2
      split at h2
      ·rename_i he
       have hret: ∀ {fr H} {xs} {Q:V->List Obj->Prop},Yr P fr H fn.results.toList=some xs->Q (W5 xs) H->Jp P fn.results.toList Q e fr H:=fun {fr H xs Q} hx hq=>by
        cases e with
        | normal=>grind [Jp]
        | ret=>grind [Jp]
        | _=>cases he
       split at h2
       ·rename_i z1 hz;simp only [XQ] at h2;subst h2
        split at hz
        ·cases hz
        ·split at hz
         ·rename_i xs hx
          split at hz
          ·rename_i hcut;simp only [XQ] at hz;subst hz;refine ⟨_,_,uE (n0:=H.length) (fr',H'),hret hx ⟨_,_,jY hcut,?_⟩⟩
           grind
          ·cases hz
         ·cases hz
       ·split at h2
        ·rename_i xs hx;simp only [XQ] at h2;subst h2;exact ⟨fr',H',Weak.refl _ _ _,hret hx ⟨_,_,Weak.refl _ _ _,h3 _ Zb⟩⟩
        ·cases h2
      ·cases h2
     ·cases h
    ·cases h
  ·cases h
theorem fJ {P:Program} (p:Prm) (n:Nat) {g:FuncId} (hm:P.follows .mixedOrders=true) (h:GK P p n g [] []=some [(.p (.bool true),[])]) (hk:SQ P p:=by simp [SQ,KnL]):ACalls P g [] [] fun y H'=>y= .p (.bool true)/\H'= [] :=
 (E1 hm hk n g [] [] _ h).mono fun x H' hm=>by
  grind
theorem Ys {P:Program} (p:Prm) (n:Nat) {g:FuncId} {args:List V} {x:V} {H':List AM.Obj} (hm:P.follows .mixedOrders=true) (h:GK P p n g args []=some [(x,H')]) (hk:SQ P p:=by simp [SQ,KnL]):ACalls P g args [] fun y H=>y=x/\H=H' :=
 (E1 hm hk n g args [] _ h).mono fun y H hq=>by
  grind
end Go.AM
namespace Go.Proofs.YtiigdaohjanidaaGreatDoor.K
open Go Go.AM Go.Proofs
set_option maxRecDepth 60000
set_option maxHeartbeats 8000000
theorem Ya : bD 1= .lp (.agg (tabB.map (.int .u8))) 0:=rfl
theorem WD {s:Option (Option Nat×Nat)} {H:List AM.Obj} {x:V} {E k:Int} {K:V->Prop} (h:E=k) (hk:CO (VV s H x (.p (.int .u64 k))) K):CO (VV s H x (.p (.int .u64 E))) K:=h ▸ hk
def KH (n:Nat):Int:=if n%2=1 then 0 else if n%4=2 then 1 else if n%8=4 then 2 else 3
theorem Up {P Q:Prop} (h:Q) (e:Q->P:=by intro h;simp (disch:=omega) only [tabB,go_sem,seval];exact h):P:=e h
theorem Za1 (n:Nat) (h0:0<n) (h:n<16):PC 210 [.p (.int .u64 n)] (.int .i64 (KH n)):=by
 have hc:n=1\/n=2\/n=3\/n=4\/n=5\/n=6\/n=7\/n=8\/n=9\/n=10\/n=11\/n=12\/n=13\/n=14\/n=15:=Za
 rcases hc with rfl | rfl | rfl | rfl | rfl | rfl | rfl | rfl | rfl | rfl | rfl | rfl | rfl | rfl | rfl
 ·refine Zd Tryz.func210 rfl WE ?_;simp (disch:=omega) only [Tryz.f210,Ya,go_sem,seval];refine WD (k:=0) (by decide+kernel) (Up ?_)
  try rfl
 ·refine Zd Tryz.func210 rfl WE ?_;simp (disch:=omega) only [Tryz.f210,Ya,go_sem,seval];refine WD (k:=1) (by decide+kernel) (Up ?_)
  try rfl
 ·refine Zd Tryz.func210 rfl WE ?_;simp (disch:=omega) only [Tryz.f210,Ya,go_sem,seval];refine WD (k:=0) (by decide+kernel) (Up ?_)
  try rfl
 ·refine Zd Tryz.func210 rfl WE ?_;simp (disch:=omega) only [Tryz.f210,Ya,go_sem,seval];refine WD (k:=3) (by decide+kernel) (Up ?_)
  try rfl
 ·refine Zd Tryz.func210 rfl WE ?_;simp (disch:=omega) only [Tryz.f210,Ya,go_sem,seval];refine WD (k:=0) (by decide+kernel) (Up ?_)
  try rfl
 ·refine Zd Tryz.func210 rfl WE ?_;simp (disch:=omega) only [Tryz.f210,Ya,go_sem,seval];refine WD (k:=1) (by decide+kernel) (Up ?_)
  try rfl
 ·refine Zd Tryz.func210 rfl WE ?_;simp (disch:=omega) only [Tryz.f210,Ya,go_sem,seval];refine WD (k:=0) (by decide+kernel) (Up ?_)
  try rfl
 ·refine Zd Tryz.func210 rfl WE ?_;simp (disch:=omega) only [Tryz.f210,Ya,go_sem,seval];refine WD (k:=7) (by decide+kernel) (Up ?_)
  try rfl
 ·refine Zd Tryz.func210 rfl WE ?_;simp (disch:=omega) only [Tryz.f210,Ya,go_sem,seval];refine WD (k:=0) (by decide+kernel) (Up ?_)
  try rfl
 ·refine Zd Tryz.func210 rfl WE ?_;simp (disch:=omega) only [Tryz.f210,Ya,go_sem,seval];refine WD (k:=1) (by decide+kernel) (Up ?_)
  try rfl
 ·refine Zd Tryz.func210 rfl WE ?_;simp (disch:=omega) only [Tryz.f210,Ya,go_sem,seval];refine WD (k:=0) (by decide+kernel) (Up ?_)
  try rfl
 ·refine Zd Tryz.func210 rfl WE ?_;simp (disch:=omega) only [Tryz.f210,Ya,go_sem,seval];refine WD (k:=3) (by decide+kernel) (Up ?_)
  try rfl
 ·refine Zd Tryz.func210 rfl WE ?_;simp (disch:=omega) only [Tryz.f210,Ya,go_sem,seval];refine WD (k:=0) (by decide+kernel) (Up ?_)
  try rfl
 ·refine Zd Tryz.func210 rfl WE ?_;simp (disch:=omega) only [Tryz.f210,Ya,go_sem,seval];refine WD (k:=1) (by decide+kernel) (Up ?_)
  try rfl
 ·refine Zd Tryz.func210 rfl WE ?_;simp (disch:=omega) only [Tryz.f210,Ya,go_sem,seval];refine WD (k:=0) (by decide+kernel) (Up ?_)
  try rfl
end Go.Proofs.YtiigdaohjanidaaGreatDoor.K
