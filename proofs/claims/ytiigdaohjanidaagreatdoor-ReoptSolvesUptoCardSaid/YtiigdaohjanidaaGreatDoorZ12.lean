/- Declarations that the closing texts need, part 12: joined by tools/slim.py. -/
import Derived.Test.YtiigdaohjanidaaGreatDoorZ11
import Derived.LoopN
set_option linter.unusedVariables false
set_option linter.unusedSimpArgs false
namespace Go.AM
open Go.RowKit
mutual
def PV.eqb : PV->PV->Bool
 | .int k n,.int k' n'=>decide (k=k')&&decide (n=n')
 | .bool b,.bool b'=>b==b'
 | .str s,.str s'=>decide (s=s')
 | .list c l,.list c' l'=>c==c'&&PV.eqbs l l'
 | .agg l,.agg l'=>PV.eqbs l l'
 | .nilp,.nilp=>true
 | .nili,.nili=>true
 | .nilf,.nilf=>true
 | .nilm,.nilm=>true
 | .fn f,.fn f'=>decide (f=f')
 | _,_=>false
def PV.eqbs : List PV->List PV->Bool
 | [],[]=>true
 | x::l,y::l'=>PV.eqb x y&&PV.eqbs l l'
 | _,_=>false
end
mutual
theorem PV.eqb_ok : ∀x y:PV,PV.eqb x y=true->x=y:=fun x y h=>by
 cases x<;>cases y<;>simp only [PV.eqb,ZG,Zr,beq_iff_eq,Wu] at h
 ·grind
 ·subst h;rfl
 ·subst h;rfl
 ·obtain ⟨rfl,h⟩:=h;rw [PV.eqbs_ok _ _ h]
 ·rw [PV.eqbs_ok _ _ h]
 ·rfl
 ·rfl
 ·rfl
 ·rfl
 grind
theorem PV.eqbs_ok : ∀x y:List PV,PV.eqbs x y=true->x=y
 | [],[],_=>rfl
 | x::l,y::l',h=>by
  simp only [PV.eqbs,ZG] at h;rw [PV.eqb_ok x y h.1,PV.eqbs_ok l l' h.2]
 | [],_::_,h=>by simp [PV.eqbs] at h
 | _::_,[],h=>by simp [PV.eqbs] at h
end
mutual
def V.eqb : V->V->Bool
 | .p x,.p y=>PV.eqb x y
 | .agg l,.agg l'=>V.eqbs l l'
 | .fn (.func f) a b,.fn (.func f') a' b'=>decide (f=f')&&(V.eqbs a a'&&V.eqbs b b')
 | .ptr o i,.ptr o' i'=>decide (o=o')&&decide (i=i')
 | .ep o i j t,.ep o' i' j' t'=>decide (o=o')&&(decide (i=i')&&(decide (j=j')&&decide (t=t')))
 | .sl o i j t,.sl o' i' j' t'=>decide (o=o')&&(decide (i=i')&&(decide (j=j')&&decide (t=t')))
 | .lp x i,.lp x' i'=>PV.eqb x x'&&decide (i=i')
 | .tup l,.tup l'=>V.eqbs l l'
 | .mp o,.mp o'=>decide (o=o')
 | .bp o,.bp o'=>decide (o=o')
 | .junk,.junk=>true
 | _,_=>false
def V.eqbs : List V->List V->Bool
 | [],[]=>true
 | x::l,y::l'=>V.eqb x y&&V.eqbs l l'
 | _,_=>false
end
mutual
theorem V.eqb_ok : ∀x y:V,V.eqb x y=true->x=y:=fun x y h=>by
 unfold V.eqb at h
 split at h<;>try simp only [ZG,Zr,Wu] at h
 ·rw [PV.eqb_ok _ _ h]
 ·rw [V.eqbs_ok _ _ h]
 ·obtain ⟨rfl,h1,h2⟩:=h;rw [V.eqbs_ok _ _ h1,V.eqbs_ok _ _ h2]
 ·grind
 ·grind
 ·grind
 ·obtain ⟨h1,rfl⟩:=h;rw [PV.eqb_ok _ _ h1]
 ·rw [V.eqbs_ok _ _ h]
 ·rw [h]
 ·rw [h]
 ·rfl
theorem V.eqbs_ok : ∀x y:List V,V.eqbs x y=true->x=y
 | [],[],_=>rfl
 | x::l,y::l',h=>by
  simp only [V.eqbs,ZG] at h;rw [V.eqb_ok x y h.1,V.eqbs_ok l l' h.2]
 | [],_::_,h=>by simp [V.eqbs] at h
 | _::_,[],h=>by simp [V.eqbs] at h
end
def CD : List (PV×PV)->List (PV×PV)->Bool
 | [],[]=>true
 | x::l,y::l'=>(PV.eqb x.1 y.1&&PV.eqb x.2 y.2)&&CD l l'
 | _,_=>false
theorem GI : ∀x y,CD x y=true->x=y
 | [],[],_=>rfl
 | x::l,y::l',h=>by
  simp only [CD,ZG] at h;rw [Prod.ext (PV.eqb_ok _ _ h.1.1) (PV.eqb_ok _ _ h.1.2),GI l l' h.2]
 | [],_::_,h=>by simp [CD] at h
 | _::_,[],h=>by simp [CD] at h
def Obj.eqb : Obj->Obj->Bool
 | .cells l,.cells l'=>V.eqbs l l'
 | .elems s l,.elems s' l'=>decide (s=s')&&PV.eqbs l l'
 | .map l,.map l'=>CD l l'
 | .dead,.dead=>true
 | _,_=>false
theorem Obj.eqb_ok (x y:Obj) (h:Obj.eqb x y=true):x=y:=by
 unfold Obj.eqb at h
 split at h<;>try simp only [ZG,Zr,Wu] at h
 ·rw [V.eqbs_ok _ _ h]
 ·obtain ⟨rfl,h⟩:=h;rw [PV.eqbs_ok _ _ h]
 ·rw [GI _ _ h]
 ·rfl
def D3 : List Obj->List Obj->Option (List Obj)
 | [],r=>some r
 | x::l,y::r=>if Obj.eqb x y=true then D3 l r else none
 | _::_,[]=>none
theorem Q9 : ∀ {l r k:List Obj},D3 l r=some k->r=l++k
 | [],r,k,h=>by grind [D3]
 | x::l,y::r,k,h=>by
  simp only [D3] at h
  split at h
  ·rename_i he;rw [Obj.eqb_ok _ _ he,Q9 h];rfl
  ·cases h
 | _::_,[],k,h=>by simp [D3] at h
def JR {α β:Type} (f:α->Option (List β)):List α->Option (List β)
 | []=>some []
 | a::l=>match f a with
  | some x=>match JR f l with
   | some y=>some (x++y)
   | none=>none
  | none=>none
theorem W2 {α β:Type} {f:α->Option (List β)} : ∀ {l:List α} {rs:List β},JR f l=some rs-> ∀a∈l,∃x,f a=some x/\ ∀b∈x,b∈rs
 | [],_,_,a,ha=>by simp at ha
 | c::l,rs,h,a,ha=>by
  simp only [JR] at h
  split at h
  ·rename_i x hx
   split at h
   ·rename_i y hy;simp at h;subst h;rcases Yj.1 ha with rfl | ha
    ·grind
    ·obtain ⟨z,h1,h2⟩:=W2 hy a ha
     grind
   ·cases h
  ·cases h
theorem Q6 {P o fr H} {K K':V->List Obj->Prop} (hk: ∀x H',K x H'->K' x H') (h:Zt P o fr H K):Zt P o fr H K':=by
 unfold Zt at h ⊢
 split
 ·rename_i f azs ho;rw [ho] at h;simp only at h;unfold Aq at h ⊢
  split at h
  ·exact h.mono hk
  ·exact h.mono hk
  omega
 grind
abbrev Out := List (V×List Obj)
def WM (P:Program) (call:FuncId->List V->List Obj->Option Out):Prop:= ∀g a H rs,call g a H=some rs->ACalls P g a H fun x H'=>(x,H')∈rs
section
variable (P : Program) (call : FuncId -> List V -> List Obj -> Option Out)
def QY (o:Oper) (fr:List V) (H:List Obj):Option Out :=
 match YE o.op with
 | some (f,azs)=>match ev fr f with
  | .fn (.func g) fs cs=>call g (fs++azs.map (ev fr)++cs) H
  | .p (.fn g)=>call g (azs.map (ev fr)) H
  | _=>none
 | none=>match Hg P o.op fr H with
  | some r=>some [r]
  | none=>none
def FS (ds:List (Option Nat)):List Oper->List V->List Obj->Option (List (List V×List Obj))
 | [],fr,H=>some [(fr,H)]
 | o::r,fr,H=>match o.guard with
  | none=>match QY P call o fr H with
   | some xs=>JR (fun x=>FS ds r (Y7 fr o.dst x.1) x.2) xs
   | none=>none
  | some (j,b)=>match B7 fr ds j with
   | .p (.bool c)=>if c=b then (match QY P call o fr H with
     | some xs=>JR (fun x=>FS ds r (Y7 fr o.dst x.1) x.2) xs
     | none=>none) else FS ds r (Y7 fr o.dst (.tup [])) H
   | .tup []=>FS ds r (Y7 fr o.dst (.tup [])) H
   | _=>none
variable {P} {call}
theorem Kz (hc:WM P call) {o fr H rs} (h:QY P call o fr H=some rs):Zt P o fr H fun x H'=>(x,H')∈rs:=by
 unfold QY at h;unfold Zt
 split at h
 ·rename_i f azs ho;rw [ho];simp only;unfold Aq
  split at h
  ·rename_i hf;rw [hf];exact hc _ _ _ _ h
  ·rename_i hf;rw [hf];exact hc _ _ _ _ h
  ·cases h
 grind
theorem B6 (hc:WM P call) {ds:List (Option Nat)} : ∀ {l:List Oper} {fr:List V} {H:List Obj} {rs} {K:List V->List Obj->Prop},FS P call ds l fr H=some rs->(∀r∈rs,K r.1 r.2)->YJ P ds l fr H K
 | [],fr,H,rs,K,h,hk=>by
  simp only [FS,XT] at h;subst h;exact hk (fr,H) Zb
 | o::l,fr,H,rs,K,h,hk=>by
  have step: ∀ {rs},(match QY P call o fr H with | some xs=>JR (fun x=>FS P call ds l (Y7 fr o.dst x.1) x.2) xs | none=>none)=some rs->(∀r∈rs,K r.1 r.2)->Zt P o fr H fun x H'=>YJ P ds l (Y7 fr o.dst x) H' K:=fun {rs} h hk=>by
   split at h
   ·rename_i xs hx;refine Q6 (fun x H' hm=> ?_) (Kz hc hx);obtain ⟨z,h1,h2⟩:=W2 h _ hm;exact B6 hc h1 fun r hr=>hk r (h2 r hr)
   ·cases h
  simp only [FS] at h;simp only [YJ]
  split at h
  ·rename_i hg;rw [hg];exact step h hk
  ·rename_i j b hg;rw [hg];simp only;unfold Xx
   split at h
   ·rename_i c hc';rw [hc'];simp only
    split at h
    ·rename_i hcb;exact ⟨fun _=>step h hk,fun e=>absurd hcb e⟩
    ·rename_i hcb;exact ⟨fun e=>absurd e hcb,fun _=>B6 hc h hk⟩
   ·rename_i hc';rw [hc'];exact B6 hc h hk
   ·cases h
end
mutual
/-- a value, where the own row o is a value from now on, wherever it stands -/
def fzD (o:Nat) (xs:List PV):V->V
 | .sl o' off len tot=>if o'=o/\xs.length=tot/\off+len<=tot then .p (.list false ((xs.take (off+len)).drop off)) else .sl o' off len tot
 | .agg cs=>mkA (cV o xs cs)
 | .tup cs=> .tup (cV o xs cs)
 | .p x=> .p x
 | .fn f a b=> .fn f a b
 | .ptr a b=> .ptr a b
 | .ep a b c d=> .ep a b c d
 | .lp a b=> .lp a b
 | .mp a=> .mp a
 | .bp a=> .bp a
 | .junk=> .junk
def cV (o:Nat) (xs:List PV):List V->List V
 | []=> []
 | x::l=>fzD o xs x::cV o xs l
end
theorem Ek {o:Nat} {xs:List PV} : ∀l:List V,cV o xs l=l.map (fzD o xs)
 | []=>by rfl
 | x::l=>by rw [cV,Ek l];rfl
theorem Weak.fzD {n0 fr H} (o:Nat) {S:Nat} {xs:List PV} (ho:H[o]? =some (.elems S xs)):Weak n0 fr H (fr.map (AM.fzD o xs)) ((H.map (J0 (AM.fzD o xs))).set o .dead) :=
 Weak.fzG (AM.fzD o xs) o ho fun {F H' ι ι' w} hX hHX row {x v} hv=>by
  have sl: ∀ {o' off len tot v},RV F H ι w (.sl o' off len tot) v->RV F H' ι' w (AM.fzD o xs (.sl o' off len tot)) v:=fun {o' off len tot v} hv=>by
   rw [AM.fzD]
   split
   ·grind
   ·exact hv.ext hX hHX
  induction hv with
  | agg cs a hs _ ih =>
   rw [AM.fzD,Ek];refine Ok (by grind) fun j c hj=> ?_
   grind
  | tup cs a hs _ ih =>
   rw [AM.fzD,Ek];refine .tup _ _ (by grind) fun j c hj=> ?_
   grind
  | slNil o S a h hH=>exact sl (.slNil o S a h hH)
  | sl o off len tot b S cap t xs c h hH ht hw hcap hl hlen hm=>exact sl (.sl o off len tot b S cap t xs c h hH ht hw hcap hl hlen hm)
  | slD o off len tot v h=>exact sl (.slD o off len tot v h)
  | slS o off len tot v S xs h hne=>exact sl (.slS o off len tot v S xs h hne)
  | slC o tot b cap cs h hH hl hm=>exact sl (.slC o tot b cap cs h hH hl hm)
  | p x v h=>rw [AM.fzD];exact (RV.p x v h).ext hX hHX
  | fn f cs ds a e hs ht hr hq _ _=>rw [AM.fzD];exact (RV.fn f cs ds a e hs ht hr hq).ext hX hHX
  | ptr o off b cs h hH=>rw [AM.fzD];exact (RV.ptr o off b cs h hH).ext hX hHX
  | ep o i j tot b S xs h hH ht=>rw [AM.fzD];exact (RV.ep o i j tot b S xs h hH ht).ext hX hHX
  | lp x j b off u hX' hb hu hr=>rw [AM.fzD];exact (RV.lp x j b off u hX' hb hu hr).ext hX hHX
  | mp o b es h hH=>rw [AM.fzD];exact (RV.mp o b es h hH).ext hX hHX
  | bp o b T E r bs h hH=>rw [AM.fzD];exact (RV.bp o b T E r bs h hH).ext hX hHX
  | bpD o v h=>rw [AM.fzD];exact (RV.bpD o v h).ext hX hHX
  | junk v=>rw [AM.fzD];exact .junk v
  | mpD o v h=>rw [AM.fzD];exact (RV.mpD o v h).ext hX hHX
  | ptrD o off v h=>rw [AM.fzD];exact (RV.ptrD o off v h).ext hX hHX
  | epD o i j tot v h=>rw [AM.fzD];exact (RV.epD o i j tot v h).ext hX hHX
  | epS o i j tot v S xs h hne=>rw [AM.fzD];exact (RV.epS o i j tot v S xs h hne).ext hX hHX
def fz1 (s:List V×List Obj) (o:Nat):List V×List Obj:=match oat s.2 o with
 | .elems _ xs=>(s.1.map (fzD o xs),(s.2.map (J0 (fzD o xs))).set o .dead)
 | _=>s
theorem wS {n0:Nat} (s:List V×List Obj) (o:Nat):Weak n0 s.1 s.2 (fz1 s o).1 (fz1 s o).2:=by
 grind [fz1,Weak.fzD,Z7,Weak.refl]
def sV (os:List Nat) (s:List V×List Obj):List V×List Obj:=os.foldl fz1 s
theorem HM {n0:Nat} : ∀(os:List Nat) (s:List V×List Obj),Weak n0 s.1 s.2 (sV os s).1 (sV os s).2
 | [],s=>Weak.refl _ _ _
 | o::os,s=>(wS s o).trans (HM os _)
mutual
def Mi : V->List Nat
 | .sl o _ _ _=> [o]
 | .agg cs=>EV cs
 | .tup cs=>EV cs
 | _=> []
def EV : List V->List Nat
 | []=> []
 | x::l=>Mi x++EV l
end
def Cz (o:Oper) (fr:List V) (H:List Obj):List Nat:=match o.op with
 | .call { callee:= .builtin .append,args:=azs,.. } =>(((azs.toList.drop 1).flatMap X5).map (gt fr)).flatMap Mi
 | .call { callee:= .builtin .copy,args:=azs,.. } =>(((azs.toList.drop 1).flatMap X5).map (gt fr)).flatMap Mi
 | .load _ x=>match ev fr x with
  | .ptr q _=>match oat H q with
   | .cells cs=>EV cs
   | _=> []
  | y=>Mi y
 | op=>((WD op).map (gt fr)).flatMap Mi
def WL (P:Program) (ops:Array Oper) (l:List Oper) (fr:List V) (H:List Obj) (K:List V->List Obj->Prop):Prop :=
 ∀(Q:Exit->Act->World->Prop) F ι a w,Rel F H ι w->Fr F H ι w fr a->(∀fr' H' ι' a' w',K fr' H'->Good F H ι w H' ι' w'->Fr F H' ι' w' fr' a'->Q .normal a' w')->wpList P ops Q l a w
def WR (P:Program) (ops:Array Oper) (o:Oper) (l:List Oper) (fr:List V) (H:List Obj) (K:List V->List Obj->Prop):Prop :=
 ∀(Q:Exit->Act->World->Prop) F ι a w,Rel F H ι w->Fr F H ι w fr a->(∀fr' H' ι' a' w',K fr' H'->Good F H ι w H' ι' w'->Fr F H' ι' w' fr' a'->Q .normal a' w')->o.wp P a w (wpList P ops Q l) Q
section
variable {P : Program} {ops : Array Oper} {l : List Oper} {o : Oper} {fr : List V} {H : List Obj} {K : List V -> List Obj -> Prop}
theorem WL.nil (h:K fr H):WL P ops [] fr H K:=fun Q F ι a w hr hf hq=>hq fr H ι a w h (Good.refl hr) hf
theorem WR.weak {fr' H'} (hw:Weak H.length fr H fr' H') (h:WR P ops o l fr' H' K):WR P ops o l fr H K:=fun Q F ι a w hr hf hq=>by
 obtain ⟨ι',r,f,g⟩:=hw F ι a w hr hf;exact h Q F ι' a w r f fun fr2 H2 ι2 a2 w2 k g2 f2=>hq fr2 H2 ι2 a2 w2 k ((g H ι w (ZM _) (Good.refl hr)).trans g2) f2
theorem WR.step (h:Zt P o fr H fun x H'=>WL P ops l (Y7 fr o.dst x) H' K):WR P ops o l fr H K:=fun Q F ι a w hr hf hq =>
 UC h hr hf fun x H' ι' v w' hk g r=>hk Q F ι' _ w' g.rel ((g.fr hf).put o.dst r) fun fr2 H2 ι2 a2 w2 k g2 f2=>hq fr2 H2 ι2 a2 w2 k (g.trans g2) f2
theorem WR.opX {B:V->List Obj->Prop} (hp:OpX P o fr H B) (hk: ∀y H2,B y H2->WL P ops l (Y7 fr o.dst y) H2 K):WR P ops o l fr H K:=fun Q F ι a w hr hf hq=>by
 obtain ⟨y,H2,nx,v,ι2,w2,hB,hrun,e2,g2,hrv⟩:=hp F ι a w hr hf;have go: ∀v,RV F H2 ι2 w2 y v->wpList P ops Q l (a.put o.dst v) w2:=fun v hrv=>hk y H2 hB Q F ι2 _ w2 g2.rel ((g2.fr hf).put o.dst hrv) fun fr3 H3 ι3 a3 w3 k g3 f3=>hq fr3 H3 ι3 a3 w3 k (g2.trans g3) f3;unfold Oper.wp;rw [hrun];rcases e2 with rfl | ⟨rfl,rfl⟩
 ·exact go v hrv
 ·exact go undef hrv
theorem WL.cons (hg:o.guard=none) (h:WR P ops o l fr H K):WL P ops (o::l) fr H K:=fun Q F ι a w hr hf hq=>by
 simp only [wpList]
 have hw:Region.wanted o (yielded ops a.tmps)=true:=by simp [Region.wanted,hg]
 rw [if_pos hw];exact .inl (h Q F ι a w hr hf hq)
theorem WL.consB {j:Nat} {b c:Bool} (hg:o.guard=some (j,b)) (hc:B7 fr (ops.toList.map (·.dst)) j= .p (.bool c)) (h1:c=b->WR P ops o l fr H K) (h2:c≠b->WL P ops l (Y7 fr o.dst (.tup [])) H K):WL P ops (o::l) fr H K:=fun Q F ι a w hr hf hq=>by
 simp only [wpList];have hy:=WQ hf hc
 by_cases hcb:c=b
 ·have hw:Region.wanted o (yielded ops a.tmps)=true:=by grind [Region.wanted]
  rw [if_pos hw];exact .inl (h1 hcb Q F ι a w hr hf hq)
 ·have hw: ¬(Region.wanted o (yielded ops a.tmps)=true):=by grind [Region.wanted]
  rw [if_neg hw];exact h2 hcb Q F ι _ w hr (hf.put o.dst Y4) hq
theorem WL.consS {j:Nat} {b:Bool} (hg:o.guard=some (j,b)) (hc:B7 fr (ops.toList.map (·.dst)) j= .tup []) (h:WL P ops l (Y7 fr o.dst (.tup [])) H K):WL P ops (o::l) fr H K:=fun Q F ι a w hr hf hq=>by
 simp only [wpList];have hy:=YR hf hc
 have hw: ¬(Region.wanted o (yielded ops a.tmps)=true):=by simp [Region.wanted,hg,hy]
 rw [if_neg hw];exact h Q F ι _ w hr (hf.put o.dst Y4) hq
theorem vI {id:Nat} {Q:Exit->List V->List Obj->Prop} (h:WL P ops ops.toList fr H (Q .normal)):AWP P (.region id ops false) fr H Q:=fun F ι a w hr hf =>
 wp_region_list (h _ F ι a w hr hf fun fr' H' ι' _ _ k g f=>⟨fr',H',ι',k,g,f⟩)
end
theorem OpS.opX {P o fr H y H'} (h:OpS P o fr H y H'):OpX P o fr H fun x K=>x=y/\K=H':=fun F ι a w hr hf=>by
 obtain ⟨nx,v,ι',w',e,e2,g,r⟩:=h F ι a w hr hf
 grind
theorem OpN.opX {P o fr H B} (h:OpN P o fr H B):OpX P o fr H fun x K=>B x/\K=H:=fun F ι a w hr hf=>by
 obtain ⟨x,v,hB,e,r⟩:=h F ι a w hr hf;exact ⟨x,H,_,v,ι,w,⟨hB,rfl⟩,e,.inl rfl,Good.refl hr,r⟩
theorem OpX.mono {P o fr H} {B B':V->List Obj->Prop} (h:OpX P o fr H B) (hb: ∀x K,B x K->B' x K):OpX P o fr H B':=fun F ι a w hr hf=>by
 obtain ⟨y,H',nx,v,ι',w',q,r⟩:=h F ι a w hr hf
 grind
theorem Sw {P:Program} {o:Oper} {fr:List V} {H:List Obj} (t e:TypeId) (x y:Operand) (m by' S:Nat) (z:PV) (h:o.op= .makeSlice t x y) (hu:P.underlying t=some (.slice e)) (hs:YC P e=some S) (hzv:zval P e=some z) (hb:(P.info? e).map (·.bytes)=some by') (hS0:0<S) (hzl:z.cells.length=S) (hz1:z.cells.all (·.one)=true)
  (hby:by'*m<=281474976710656) (hm2:m<=281474976710656) (hX:ev fr x= .p (.int .i64 0)) (hY:ev fr y= .p (.int .i64 m)):OpS P o fr H (.sl H.length 0 0 0) (H++ [.elems S []]):=fun F ι a w hr hf=>by
 have hx:=hf.ev x;have hy:=hf.ev y;rw [hX] at hx;rw [hY] at hy
 cases hx with | p _ _ hx=>cases hy with | p _ _ hy =>
 obtain ⟨zz,hzz⟩: ∃zz,((P.info? e).bind (·.zero))=some zz:=by
  grind [zval,Xv]
 have hrz:RP (Own F ι) w z zz:=Ac hzz hzv;obtain ⟨z1,z2⟩:=Vc hrz hz1;simp only [Xv] at hzz;obtain ⟨ie,hie,hzz⟩:=hzz;simp [hie] at hb
 let arr:Array Value:=(Array.range (m*S)).map (zz.cells[· %zz.cells.size]!)
 have g:=WU (H:=H) hr (Pushed.alloc w arr e) (.elems S []) ⟨m,by simp [arr],Zb,by unfold maxLen;omega,(fun i q hi=>by simp at hi),fun i q j c hi hj=>by simp at hi⟩;refine ⟨_,.slice (some ⟨w.heap.size,0,none⟩) 0 m,_,_,?_,.inl rfl,g,?_⟩
 ·have hw:IntKind.i64.wrap (m:Int)=m:=IntWalk.i64_in _ Za;have hw0:IntKind.i64.wrap (0:Int)=0:=rfl
  have h1: ¬((m:Int)<0):=Za
  have h2: ¬(281474976710656<((ie.bytes:Int)*(m:Int))):=by
   grind
  by_cases h0:m*S=0
  ·have e9:Array.range 0= #[]:=by rfl
   simp [execOp,h,hx.int_inv,hy.int_inv,Instr.makeSlice,asInt,asIntOf,run_underlying hu,typeInfo,hie,hw,hw0,h1,h2,XA hs,h0,newRow,e9,arr]
  ·simp [execOp,h,hx.int_inv,hy.int_inv,Instr.makeSlice,asInt,asIntOf,run_underlying hu,typeInfo,hie,hw,hw0,h1,h2,XA hs,h0,zeroValue,hzz,newRow,arr]
 ·have:=RV.sl (F:=F) (w:=w.alloc (.cells arr e)) (H:=H++ [.elems S []]) (ι:=ι++ [some w.heap.size]) H.length 0 0 0 w.heap.size S m e [] arr (by rw [<- hr.len];simp) Zb Zb (Pushed.new (Pushed.alloc w arr e)) (by simp [arr]) Za Za (by unfold maxLen;omega)
  grind
theorem fT {P:Program} {o:Oper} {fr:List V} {H:List Obj} {t t2 e:TypeId} {x y:Operand} {S:Nat} (h:o.op= .call { callee:= .builtin .append,args:= #[x,y],argTypes:= #[t,t2] }) (hu:P.underlying t=some (.slice e)) (hs:YC P e=some S) (hS:0<S)
  (hx:ev fr x= .p (.list true [])) (hsrc:Fq P H t2 (ev fr y)=some []):OpS P o fr H (.p (.list true [])) H:=fun F ι a w hr hf=>by
 have h1:=hf.ev x;have h2:=hf.ev y;rw [hx] at h1;obtain ⟨news,src⟩:=iX hsrc (by simp [AS]) hS hr h2;have hn0:news= []:=Z1 (by have:=src.len;grind);subst hn0;have e1:=src.first w rfl;simp at e1;have e3:=src.lenOf w;simp only [ZH] at e3
 suffices hh: ∃ad cap,a.eval x= .slice ad 0 cap by
  obtain ⟨ad,cap,ev'⟩:=hh
  have hrun:(Builtin.append_ #[t,t2] o.type #[a.eval x,a.eval y]).run P w= .ok (.slice ad 0 cap) w:=by
   rw [ev']
   rcases src.ty with hu2 | ⟨e2,hu2⟩<;>cases ad <;>
    simp [Builtin.append_,run_underlying hu,run_underlying hu2,XA hs,e3,e1,storeCells]
  exact ⟨_,.slice ad 0 cap,ι,w,by simp [execOp,h,resolve,invoke,builtin,hrun],.inl rfl,Good.refl hr,by grind⟩
 cases h1 with | p _ _ h1 =>
 generalize a.eval x=vx at h1
 cases h1 with
 | nils=>simp
 | emp=>simp
 | list _ _ b off cap=>simp
def G5 (P:Program) (o:Oper) (fr:List V) (H:List Obj):Option Out :=
 match o.op with
 | .binOp .eql t x (.const (.slice none 0 0)) _=>match P.underlying t,ev fr x with
  | some (.slice _),.p (.list _ xs)=>some (if xs.isEmpty=true then [(.p (.bool true),H),(.p (.bool false),H)] else [(.p (.bool false),H)])
  | _,_=>none
 | .binOp .neq t x (.const (.slice none 0 0)) _=>match P.underlying t,ev fr x with
  | some (.slice _),.p (.list _ xs)=>some (if xs.isEmpty=true then [(.p (.bool true),H),(.p (.bool false),H)] else [(.p (.bool true),H)])
  | _,_=>none
 | .call { callee:= .builtin .copy,args:=azs,argTypes:=ts } =>match azs.toList,ts.toList with
  | [x,y],[t,_]=>match P.underlying t with
   | some (.slice e)=>match (P.info? e).map (·.size),ev fr x,ev fr y with
    | some S,.sl ob i n m,.p (.list _ ys)=>match oat H ob with
     | .elems S' xs=>if (n=0\/ys.isEmpty=true)/\xs.length=m then some [(.p (.int .i64 0),H)] else if S'=S/\0<S/\i=0/\n=m/\xs.length=n/\ys.length<=n/\0<ys.length/\(ys.all fun q=>decide (q.cells.length=S)&&q.cells.all (·.one))=true then some [(.p (.int .i64 (ys.length:Nat)),H.set ob (.elems S (ys++xs.drop ys.length)))] else none
     | _=>none
    | some 1,.sl ob i n m,.sl ob' 0 n' m'=>match oat H ob with
     | .elems 1 xs=>if ob'=ob/\m'=m/\xs.length=m/\0<Nat.min n' n/\(xs.all (·.one))=true then some [(.p (.int .i64 (Nat.min n' n:Nat)),H.set ob (.elems 1 (xs.take i++xs.take (Nat.min n' n)++xs.drop (i+Nat.min n' n))))] else none
     | _=>none
    | _,_,_=>none
   | _=>none
  | _,_=>none
 | .call { callee:= .builtin .append,args:=azs,argTypes:=ts } =>match azs.toList,ts.toList with
  | [x,y],[t,t2]=>match P.underlying t with
   | some (.slice e)=>match YC P e,ev fr x,Fq P H t2 (ev fr y) with
    | some S,.p (.list true []),some []=>if 0<S then some [(.p (.list true []),H)] else none
    | _,_,_=>none
   | _=>none
  | _,_=>none
 | .makeSlice t x y=>match P.underlying t with
  | some (.slice e)=>match P.underlying e,YC P e,zval P e,(P.info? e).map (·.bytes),ev fr x,ev fr y with
   | some (.slice _),some 1,some z,some by',.p (.int .i64 n),.p (.int .i64 m)=>if 0<=n/\m=n/\z.one=true/\by'*n.toNat<=281474976710656/\n.toNat<=281474976710656 then some [(.sl H.length 0 n.toNat n.toNat,H++ [.cells (List.replicate n.toNat (.p z))])] else none
   | _,_,_,_,_,_=>none
  | _=>none
 | _=>none
theorem jR {P o fr H rs} (h:G5 P o fr H=some rs):OpX P o fr H fun x K=>(x,K)∈rs:=by
 unfold G5 at h
 split at h
 ·rename_i t x t2 ho
  split at h
  ·rename_i e c xs hu hx;simp at h;subst h;refine (PI ho hu hx fun a=>rfl).opX.mono ?_;rintro y K ⟨⟨b,rfl,hb⟩,rfl⟩
   cases xs with
   | nil=>simp
   | cons z zs =>
    grind
  ·cases h
 ·rename_i t x t2 ho
  split at h
  ·rename_i e c xs hu hx;simp at h;subst h;refine (fS ho hu hx fun a=>rfl).opX.mono ?_;rintro y K ⟨⟨b,rfl,hb⟩,rfl⟩
   cases xs with
   | nil=>simp
   | cons z zs =>
    grind
  ·cases h
 ·rename_i azs ts ho
  split at h
  ·rename_i x y t t2 e1 e2
   split at h
   ·rename_i e hu
    split at h
    ·rename_i S ob i n m c ys hs hx hy;obtain ⟨azs⟩:=azs;obtain ⟨ts⟩:=ts;simp at e1 e2;subst e1;subst e2
     split at h
     ·rename_i S' xs hH
      split at h
      ·rename_i hc;obtain ⟨h1,h2⟩:=hc;simp at h;subst h;refine (Sv ho hu hs hx hy (Z7 hH Zb) h2 (h1.imp id List.isEmpty_iff.1)).opX.mono ?_;simp
      ·split at h
       ·rename_i hc;obtain ⟨rfl,h1,rfl,rfl,h2,h3,h4,h5⟩:=hc;simp at h;subst h;refine (Su ho hu hs h1 hx hy (Z7 hH Zb) h2 h3 h4 fun q hq=> ?_).opX.mono ?_
        ·grind
        simp
       ·cases h
     ·cases h
    ·rename_i ob i n m ob' n' m' hs hx hy;obtain ⟨azs⟩:=azs;obtain ⟨ts⟩:=ts;simp at e1 e2;subst e1;subst e2
     split at h
     ·rename_i xs hH
      split at h
      ·rename_i hc;obtain ⟨rfl,rfl,h1,h2,h3⟩:=hc;simp at h;subst h;refine (Ss ho hu hs hx hy (Z7 hH Zb) h1 rfl h2 fun q hq=>Zw.1 h3 q hq).opX.mono ?_;simp
      ·cases h
     ·cases h
    ·cases h
   ·cases h
  ·cases h
 ·rename_i azs ts ho
  split at h
  ·rename_i x y t t2 e1 e2
   split at h
   ·rename_i e hu
    split at h
    ·rename_i S hs hx hy
     split at h
     ·rename_i hS;simp at h;subst h;obtain ⟨azs⟩:=azs;obtain ⟨ts⟩:=ts;simp at e1 e2;subst e1;subst e2;refine (fT ho hu hs hS hx hy).opX.mono ?_;simp
     ·cases h
    ·cases h
   ·cases h
  ·cases h
 ·rename_i t x y ho
  split at h
  ·rename_i e hu
   split at h
   ·rename_i z by' n m _ hs hz hb hx hy
    split at h
    ·rename_i hc;obtain ⟨h1,rfl,h2,h3,h4⟩:=hc;simp at h;subst h
     have en:((m.toNat:Nat):Int)=m:=Za
     refine (GD t e x y m.toNat by' z ho hu hs hz hb h2 h3 h4 (by rw [hx,en]) (by rw [hy,en])).opX.mono ?_;simp
    ·cases h
   ·cases h
  ·cases h
 ·cases h
def Tq (P:Program) (o:Oper) (fr:List V) (H:List Obj):Option Out:=match o.op with
 | .makeSlice t x y=>match P.underlying t,ev fr x,ev fr y with
  | some (.slice e),.p (.int .i64 0),.p (.int .i64 m)=>match YC P e,zval P e,(P.info? e).map (·.bytes) with
   | some S,some z,some by'=>if 0<m/\0<S/\z.cells.length=S/\z.cells.all (·.one)=true/\by'*m.toNat<=281474976710656/\m.toNat<=281474976710656 then some [(.sl H.length 0 0 0,H++ [.elems S []])] else none
   | _,_,_=>none
  | _,_,_=>none
 | _=>none
theorem qW {P o fr H rs} (h:Tq P o fr H=some rs):OpX P o fr H fun x K=>(x,K)∈rs:=by
 unfold Tq at h
 split at h
 ·rename_i t x y ho
  split at h
  ·rename_i e m hu hx hy
   split at h
   ·rename_i S z by' hs hz hb
    split at h
    ·rename_i hc;obtain ⟨h0,h1,h2,h3,h4,h5⟩:=hc;simp at h;subst h
     have en:((m.toNat:Nat):Int)=m:=Za
     refine (Sw t e x y m.toNat by' S z ho hu hs hz hb h1 h2 h3 h4 h5 hx (by rw [hy,en])).opX.mono ?_;simp
    ·cases h
   ·cases h
  ·cases h
 ·cases h
def FQ (P:Program) (o:Oper) (fr:List V) (H:List Obj):Option Out:=match Tq P o fr H with
 | some r=>some r
 | none=>G5 P o fr H
theorem Ra {P o fr H rs} (h:FQ P o fr H=some rs):OpX P o fr H fun x K=>(x,K)∈rs:=by
 grind [FQ,qW,jR]
section
variable (P : Program) (call : FuncId -> List V -> List Obj -> Option Out)
def qY (o:Oper) (fr:List V) (H:List Obj):Option Out:=match o.op with
 | .makeSlice _ _ _=>match FQ P o fr H with
  | some r=>some r
  | none=>QY P call o fr H
 | .call { callee:= .builtin .append,.. } =>match FQ P o fr H with
  | some r=>some r
  | none=>QY P call o fr H
 | _=>match QY P call o fr H with
  | some r=>some r
  | none=>FQ P o fr H
def jU (o:Oper) (fr:List V) (H:List Obj):Option ((List V×List Obj)×Out):=match qY P call o fr H with
 | some xs=>some ((fr,H),xs)
 | none=>match qY P call o (sV (Cz o fr H) (fr,H)).1 (sV (Cz o fr H) (fr,H)).2 with
  | some xs=>some (sV (Cz o fr H) (fr,H),xs)
  | none=>none
def B4 (ds:List (Option Nat)):List Oper->List V->List Obj->Option (List (List V×List Obj))
 | [],fr,H=>some [(fr,H)]
 | o::r,fr,H=>match o.guard with
  | none=>match jU P call o fr H with
   | some (s,xs)=>JR (fun x=>B4 ds r (Y7 s.1 o.dst x.1) x.2) xs
   | none=>none
  | some (j,b)=>match B7 fr ds j with
   | .p (.bool c)=>if c=b then (match jU P call o fr H with
     | some (s,xs)=>JR (fun x=>B4 ds r (Y7 s.1 o.dst x.1) x.2) xs
     | none=>none) else B4 ds r (Y7 fr o.dst (.tup [])) H
   | .tup []=>B4 ds r (Y7 fr o.dst (.tup [])) H
   | _=>none
variable {P} {call}
theorem Rb (hc:WM P call) {ops:Array Oper} {l:List Oper} {o fr H rs} {K:List V->List Obj->Prop} (h:qY P call o fr H=some rs) (hk: ∀r∈rs,WL P ops l (Y7 fr o.dst r.1) r.2 K):WR P ops o l fr H K:=by
 have h1: ∀ {rs},QY P call o fr H=some rs->(∀r∈rs,WL P ops l (Y7 fr o.dst r.1) r.2 K)->WR P ops o l fr H K:=fun h hk=>WR.step (Q6 (fun x H' hm=>hk _ hm) (Kz hc h));have h2: ∀ {rs},FQ P o fr H=some rs->(∀r∈rs,WL P ops l (Y7 fr o.dst r.1) r.2 K)->WR P ops o l fr H K:=fun h hk=>WR.opX (Ra h) fun y H2 hm=>hk _ hm
 grind [qY]
theorem qX (hc:WM P call) {ops:Array Oper} {l:List Oper} {o fr H s rs} {K:List V->List Obj->Prop} (h:jU P call o fr H=some (s,rs)) (hk: ∀r∈rs,WL P ops l (Y7 s.1 o.dst r.1) r.2 K):WR P ops o l fr H K:=by
 unfold jU at h
 split at h
 ·rename_i xs hx;simp only [XT,V8] at h;obtain ⟨rfl,rfl⟩:=h;exact Rb hc hx hk
 ·split at h
  ·rename_i xs hx;simp only [XT,V8] at h;obtain ⟨rfl,rfl⟩:=h;exact (Rb hc hx hk).weak (HM (Cz o fr H) (fr,H))
  ·cases h
theorem B5 (hc:WM P call) {ops:Array Oper} : ∀ {l:List Oper} {fr:List V} {H:List Obj} {rs} {K:List V->List Obj->Prop},B4 P call (ops.toList.map (·.dst)) l fr H=some rs->(∀r∈rs,K r.1 r.2)->WL P ops l fr H K
 | [],fr,H,rs,K,h,hk=>by
  simp only [B4,XT] at h;subst h
  simp_all [WL.nil]
 | o::l,fr,H,rs,K,h,hk=>by
  have step: ∀ {rs},(match jU P call o fr H with | some (s,xs)=>JR (fun x=>B4 P call (ops.toList.map (·.dst)) l (Y7 s.1 o.dst x.1) x.2) xs | none=>none)=some rs->(∀r∈rs,K r.1 r.2)->WR P ops o l fr H K:=fun {rs} h hk=>by
   split at h
   ·rename_i s xs hx;refine qX hc hx fun r hr=> ?_;obtain ⟨z,h1,h2⟩:=W2 h r hr;exact B5 hc h1 fun r hr=>hk r (h2 r hr)
   ·cases h
  simp only [B4] at h
  split at h
  ·rename_i hg;exact WL.cons hg (step h hk)
  ·rename_i j b hg
   split at h
   ·rename_i c hc';refine WL.consB hg hc' (fun e=> ?_) fun e=> ?_
    ·rw [if_pos e] at h;exact step h hk
    ·rw [if_neg e] at h;exact B5 hc h hk
   ·rename_i hc';exact WL.consS hg hc' (B5 hc h hk)
   ·cases h
end
structure Prm where
 kp:List FuncId:= []
 lt:List FuncId:= []
 lh:List FuncId:= []
 kn:List (FuncId×List V×V):= []
 fa:List FuncId:= []
 lb:Bool:=false
 rounds:Nat:=100000
def lateH? (p:Prm):Op->Bool
 | .call { callee:= .value (.func g),.. } =>p.lh.contains g
 | _=>false
def Zic (p:Prm):Op->Bool
 | .alloc _=>true
 | .box _ _=>true
 | .store _ _ _=>true
 | .makeSlice _ _ _=>true
 | .buildSlice _ _ _=>p.lb
 | .mapUpdate _ _ _ _=>true
 | .makeMap _ _=>true
 | .mapEntry _ _ _=>true
 | .entryStore _ _ _ _=>true
 | .call { callee:= .builtin .append,.. } =>true
 | .call { callee:= .builtin .copy,.. } =>true
 | .call { callee:= .value (.tmp _),.. } =>true
 | .call { callee:= .value (.func g),.. } =>p.lh.contains g||p.lt.contains g
 | _=>false
def msS (p:Prm) (l:List Oper) (n:Nat):List Nat:=(List.range n).foldl (fun ms i=>if (Zic p (ZW l i).op||(WD (ZW l i).op).any fun t=>ms.any fun m=>decide ((ZW l m).dst=some t))=true then ms++ [i] else ms) []
def Bj (l:List Oper):Nat:=((List.range (l.length+1)).find? fun n=>decide (0<n)&&Vi (List.toArray l) n).getD 0
section
variable (P : Program) (call : FuncId -> List V -> List Obj -> Option Out)
def Fi (o:Oper) (fr:List V) (H:List Obj):Option V :=
 match o.op with
 | .buildSlice t n ps=>match IP (Qi P t) H n (ps.toList.map fun x=>(x.1,ev fr x.2)) with
  | some x=>some (.p x)
  | none=>none
 | .call { callee:= .builtin .append,args:=azs,argTypes:=ts } =>match azs.toList,ts.toList with
  | [x,y],[t,t2]=>match Ve P H t t2 (ev fr x) (ev fr y) with
   | some (.sl o i n m,H')=>match D3 H H' with
    | some [.elems _ zs]=>if o=H.length/\i=0/\n=zs.length/\m=zs.length then some (.p (.list false zs)) else none
    | _=>none
   | _=>none
  | _,_=>none
 | op=>match YE op with
  | none=>match Z8 P op fr H with
   | some y=>some y
   | none=>match Ws P op fr H with
    | some (y,H')=>match D3 H H' with
     | some []=>some y
     | _=>none
    | none=>none
  | some _=>match QY P call o fr H with
   | some [(y,H')]=>match D3 H H' with
    | some []=>some y
    | _=>none
   | _=>none
def qV (ds:List (Option Nat)) (H:List Obj):List Oper->List V->Option (List V)
 | [],fr=>some fr
 | o::r,fr=>match o.guard with
  | none=>match Fi P call o fr H with
   | some y=>qV ds H r (Y7 fr o.dst y)
   | none=>none
  | some (j,b)=>match B7 fr ds j with
   | .p (.bool c)=>if c=b then (match Fi P call o fr H with
     | some y=>qV ds H r (Y7 fr o.dst y)
     | none=>none) else qV ds H r (Y7 fr o.dst (.tup []))
   | .tup []=>qV ds H r (Y7 fr o.dst (.tup []))
   | _=>none
def xlT (H:List Obj) (l:List Oper):Nat->List Nat->List V->List Obj->Option (List (List V×List Obj))
 | 0,_,fr,L=>some [(fr,H++L)]
 | n+1,rem,fr,L=>JR (fun m=>match QY P call (ZW l m) fr (H++L) with
  | some [(y,H')]=>match D3 H H' with
   | some L'=>xlT H l n (rem.erase m) (Y7 fr (ZW l m).dst y) L'
   | none=>none
  | _=>none) (Vx l rem)
def Zcs (o:Oper) (fr:List V) (H:List Obj):Option Out:=match QY P call o fr H with
 | some xs=>some xs
 | none=>FQ P o fr H
def xlC (ko:List Nat) (l:List Oper):Nat->List Nat->List V->List Obj->Option (List (List V×List Obj))
 | 0,_,fr,H=>some [(fr,H)]
 | n+1,rem,fr,H=>JR (fun m=>match Zcs P call (ZW l m) fr H with
  | some xs=>if (xs.all fun x=>ko.all fun k=>Obj.eqb (oat x.2 k) (oat H k))=true then JR (fun x=>xlC ko l n (rem.erase m) (Y7 fr (ZW l m).dst x.1) x.2) xs else none
  | none=>none) (Vx l rem)
def ksS (l:List Oper) (n:Nat) (ms:List Nat):List Nat:=(List.range n).filter fun i=> !ms.contains i&&(!J1 (ZW l i).op&& !(ms.all fun m=>CP l n i m))
def koV : V->Option Nat
 | .ptr o _=>some o
 | .sl o _ n m=>if n=m then some o else none
 | _=>none
def koS (l:List Oper) (fr:List V) (ks:List Nat):List Nat:=ks.filterMap fun i=>match ldP (ZW l i) with
 | some p=>koV (gt fr p)
 | none=>none
def tC (l:List Oper) (fr:List V) (ks ko:List Nat):Bool:=ks.all fun i=>match ldP (ZW l i) with
 | some p=>match koV (gt fr p) with
  | some o=>ko.contains o
  | none=>false
 | none=>true
def P9 (p:Prm) (l:List Oper) (fr:List V) (H:List Obj):Option (List (List V×List Obj)) :=
 let n:=Bj l
 let ms:=msS p l n
 if (Vi (List.toArray l) n&&(Ki (List.toArray (VL ms l)) n&&(Er l n ms&&decide (fr.length<=1000000))))=true then
  match qV P call (l.map (·.dst)) H ((VL ms l).take n) fr with
  | some fr'=>match (if (ms.any fun m=>lateH? p (ZW l m).op)=true then none else xlT P call H l ms.length ms fr' []) with
   | some rs=>JR (fun r=>FS P call (l.map (·.dst)) (l.drop n) r.1 r.2) rs
   | none=>if (evC l n ms (ksS l n ms)&&tC l fr' (ksS l n ms) (koS l fr' (ksS l n ms)))=true then (match xlC P call (koS l fr' (ksS l n ms)) l ms.length ms fr' H with
    | some rs=>JR (fun r=>FS P call (l.map (·.dst)) (l.drop n) r.1 r.2) rs
    | none=>none) else none
  | none=>none
 else none
def Oz (p:Prm) (l:List Oper) (fr:List V) (H:List Obj):Option (List (List V×List Obj)):=match P9 P call p l fr H with
 | some rs=>some rs
 | none=>P9 P call p l (sV (l.flatMap fun o=>Cz o fr H) (fr,H)).1 (sV (l.flatMap fun o=>Cz o fr H) (fr,H)).2
variable {P} {call}
theorem Rq {o fr H K} (h1: ∀t n ps,o.op≠ .buildSlice t n ps) (h2: ∀azs ts,o.op≠ .call { callee:= .builtin .append,args:=azs,argTypes:=ts }) (h:Zt P o fr H K):ZE P o fr H K:=by
 grind [ZE]
theorem Ts (hc:WM P call) {o fr H y} (h:Fi P call o fr H=some y):ZE P o fr H fun x H'=>x=y/\H'=H:=by
 unfold Fi at h
 split at h
 ·grind [ZE]
 ·rename_i azs ts ho;unfold ZE;rw [ho];simp only
  split at h
  ·rename_i x y t t2 e1 e2;rw [e1,e2];simp only
   split at h
   ·rename_i o' i n m H' ha
    split at h
    ·rename_i S zs hb
     split at h
     ·rename_i hcnd;obtain ⟨rfl,rfl,rfl,rfl⟩:=hcnd
      grind [Q9]
     ·cases h
    ·cases h
   ·cases h
  ·cases h
 ·rename_i op h1 h2;refine Rq h1 h2 ?_
  split at h
  ·rename_i hcl;unfold Zt;rw [hcl];simp only [Hg]
   split at h
   ·grind
   ·rename_i hz;rw [hz]
    split at h
    ·rename_i z H' hm;rw [hm]
     split at h
     ·rename_i hb;simp at h;subst h;have e:=Q9 hb
      grind
     ·cases h
    ·cases h
  ·split at h
   ·rename_i z H' hx
    split at h
    ·rename_i hb;simp at h;subst h;refine Q6 (fun x K hm=> ?_) (Kz hc hx);rw [List.mem_singleton,V8] at hm;refine ⟨hm.1,?_⟩;rw [hm.2,Q9 hb,Wc]
    ·cases h
   ·cases h
theorem Fh (hc:WM P call) {ds:List (Option Nat)} {H:List Obj} : ∀ {l:List Oper} {fr fr':List V} {K:List V->Prop},qV P call ds H l fr=some fr'->K fr'->hs P ds H K l fr
 | [],fr,fr',K,h,hk=>by
  simp only [qV,XT] at h;subst h;exact hk
 | o::l,fr,fr',K,h,hk=>by
  have step:(match Fi P call o fr H with | some y=>qV P call ds H l (Y7 fr o.dst y) | none=>none)=some fr'->RT (fun y=>ZE P o fr H (fun x H'=>x=y/\H'=H)) (fun y=>hs P ds H K l (Y7 fr o.dst y)):=fun h=>by
   split at h
   ·rename_i y hy;exact ⟨y,Ts hc hy,Fh hc h hk⟩
   ·cases h
  simp only [qV] at h;simp only [hs]
  split at h
  ·rename_i hg;rw [hg];exact step h
  ·rename_i j b hg;rw [hg];simp only;unfold Xx
   split at h
   ·rename_i c hc';rw [hc'];simp only
    split at h
    ·rename_i hcb;exact ⟨fun _=>step h,fun e=>absurd hcb e⟩
    ·rename_i hcb;exact ⟨fun e=>absurd e hcb,fun _=>Fh hc h hk⟩
   ·rename_i hc';rw [hc'];exact Fh hc h hk
   ·cases h
theorem Mz (hc:WM P call) {o fr H y H'} (h:QY P call o fr H=some [(y,H')]):Zt P o fr H fun x K=>x=y/\K=H' :=
 Q6 (fun x K hm=>by grind) (Kz hc h)
theorem jT (hc:WM P call) {H:List Obj} {l:List Oper} : ∀ {n:Nat} {rem:List Nat} {fr:List V} {L:List Obj} {rs} {K:List V->List Obj->Prop},xlT P call H l n rem fr L=some rs->(∀r∈rs,∀L,r.2=H++L->K r.1 L)->QH P H l n rem fr L K
 | 0,rem,fr,L,rs,K,h,hk=>by
  simp only [xlT,XT] at h;subst h;exact hk (fr,H++L) Zb L rfl
 | n+1,rem,fr,L,rs,K,h,hk=>fun m hm=>by
  simp only [xlT] at h;obtain ⟨z,h1,h2⟩:=W2 h m hm
  split at h1
  ·rename_i y H' hx
   split at h1
   ·rename_i L' hb;have e:=Q9 hb;subst e;exact ⟨y,L',Mz hc hx,jT hc h1 fun r hr=>hk r (h2 r hr)⟩
   ·cases h1
  ·cases h1
theorem MT {P:Program} {o:Oper} {f1 f2:List V} {H:List Obj} (h:VF (WD o.op) f1 f2):G5 P o f1 H=G5 P o f2 H:=by
 have key: ∀x:Operand,(∀t∈X5 x,t∈WD o.op)->ev f1 x=ev f2 x:=fun x hx=>Um fun t ht=>h t (hx t ht);unfold G5
 split
 ·grind [WD]
 ·grind [WD]
 ·rename_i azs ts ho
  split
  ·rename_i x y t t2 e1 e2;obtain ⟨azs⟩:=azs;simp only at e1;rw [key x fun t ht=>by grind [WD],key y fun t ht=>by grind [WD]]
  ·rfl
 ·rename_i azs ts ho
  split
  ·simp_all [WD]
  ·rfl
 ·rename_i t x y ho;rw [key x fun t ht=>by grind [WD],key y fun t ht=>by grind [WD]]
 ·rfl
theorem OB {P:Program} {o:Oper} {f1 f2:List V} {H:List Obj} (h:VF (WD o.op) f1 f2):Tq P o f1 H=Tq P o f2 H:=by
 have key: ∀x:Operand,(∀t∈X5 x,t∈WD o.op)->ev f1 x=ev f2 x:=fun x hx=>Um fun t ht=>h t (hx t ht);unfold Tq
 split
 ·rename_i t x y ho;rw [key x fun t ht=>by grind [WD],key y fun t ht=>by grind [WD]]
 ·rfl
theorem OA {P:Program} {o:Oper} {f1 f2:List V} {H:List Obj} (h:VF (WD o.op) f1 f2):FQ P o f1 H=FQ P o f2 H:=by
 grind [FQ,OB,MT]
theorem qZ {P:Program} {call:FuncId->List V->List Obj->Option Out} (hc:WM P call) {o fr H rs} (h:Zcs P call o fr H=some rs):stX P o fr H fun x K=>(x,K)∈rs:=by
 unfold Zcs at h
 split at h
 ·rename_i xs hx;simp only [XT] at h;subst h;exact .inl (Kz hc hx)
 ·exact .inr fun f2 h2=>Ra (by grind [OA])
theorem jS (hc:WM P call) {ko:List Nat} {l:List Oper} : ∀ {n:Nat} {rem:List Nat} {fr:List V} {H:List Obj} {rs} {K:List V->List Obj->Prop},xlC P call ko l n rem fr H=some rs->(∀r∈rs,K r.1 r.2)->Aw P ko l n rem fr H K
 | 0,rem,fr,H,rs,K,h,hk=>by
  simp only [xlC,XT] at h;subst h;exact hk (fr,H) Zb
 | n+1,rem,fr,H,rs,K,h,hk=>fun m hm=>by
  simp only [xlC] at h;obtain ⟨z,h1,h2⟩:=W2 h m hm
  split at h1
  ·rename_i xs hx
   split at h1
   ·rename_i YB;refine ⟨_,qZ hc hx,fun y H' hmem=> ?_⟩;obtain ⟨u,h3,h4⟩:=W2 h1 _ hmem;refine ⟨fun k hk=>Obj.eqb_ok _ _ (Zw.1 (Zw.1 YB _ hmem) k hk),jS hc h3 fun r hr=>hk r (h2 r (h4 r hr))⟩
   ·cases h1
  ·cases h1
theorem dY {ko:List Nat} {x:V} {o:Nat} (h:koV x=some o) (hk:o∈ko):Eo ko x:=by
 unfold koV at h
 grind [WW,dV]
theorem dU {l:List Oper} {fr:List V} {ks ko:List Nat} (h:tC l fr ks ko=true): ∀k∈ks,∀p,ldP (ZW l k)=some p->Eo ko (gt fr p):=fun k hk p hp=>by
 have:=Zw.1 h k hk
 grind [dY]
theorem MS (hc:WM P call) (hm:P.follows .mixedOrders=true) {p:Prm} {id:Nat} {ops:Array Oper} {fr:List V} {H:List Obj} {rs} {Q:Exit->List V->List Obj->Prop} (h:P9 P call p ops.toList fr H=some rs) (hk: ∀r∈rs,Q .normal r.1 r.2):AWP P (.region id ops true) fr H Q:=by
 obtain ⟨l⟩:=ops;simp only [P9] at h
 split at h
 ·rename_i hB;simp only [ZG,Zr] at hB;obtain ⟨hB,hR,hL,hfl⟩:=hB
  split at h
  ·rename_i fr' hf
   split at h
   ·rename_i rs1 h1
    split at h1
    ·cases h1
    ·refine Xo (t:=⟨⟩) (msS p l (Bj l)) (Bj l) hm hB hR hL hfl (Fh hc hf (jT hc h1 fun r hr L e=> ?_));obtain ⟨z,h2,h3⟩:=W2 h r hr;rw [e] at h2;exact B6 hc h2 fun r hr=>hk r (h3 r hr)
   ·split at h
    ·rename_i hE;simp only [ZG] at hE
     split at h
     ·rename_i rs1 h1;refine Q8 (t:=⟨⟩) (msS p l (Bj l)) (ksS l (Bj l) (msS p l (Bj l))) (koS l fr' (ksS l (Bj l) (msS p l (Bj l)))) (Bj l) hm hB hR hL hE.1 hfl (Fh hc hf ⟨dU hE.2,jS hc h1 fun r hr=> ?_⟩);obtain ⟨z,h2,h3⟩:=W2 h r hr;exact B6 hc h2 fun r hr=>hk r (h3 r hr)
     ·cases h
    ·cases h
  ·cases h
 ·cases h
end
section
variable {P : Program} {call : FuncId -> List V -> List Obj -> Option Out}
theorem To (hc:WM P call) (hm:P.follows .mixedOrders=true) {p:Prm} {id:Nat} {ops:Array Oper} {fr:List V} {H:List Obj} {rs} {Q:Exit->List V->List Obj->Prop} (h:Oz P call p ops.toList fr H=some rs) (hk: ∀r∈rs,Q .normal r.1 r.2):AWP P (.region id ops true) fr H Q:=by
 unfold Oz at h
 split at h
 ·grind [MS]
 ·exact Zp (HM _ (fr,H)) (MS hc hm h hk)
end
abbrev COut := List (Exit×List V×List Obj)
def LJ (f:List V->List Obj->Option COut):Nat->List V->List Obj->Option COut
 | 0,_,_=>none
 | n+1,fr,H=>match f fr H with
  | some rs=>JR (fun r=>match r.1 with
   | .normal=>LJ f n r.2.1 r.2.2
   | e=>some [(e,r.2.1,r.2.2)]) rs
  | none=>none
def vO (id:Nat) (r:Exit×List V×List Obj):Exit×List V×List Obj:=match r.1 with
 | .exit id'=>if id'=id then (.normal,r.2) else r
 | _=>r
def nrm (rs:List (List V×List Obj)):COut:=rs.map fun r=>(.normal,r.1,r.2)
section
variable (P : Program) (call : FuncId -> List V -> List Obj -> Option Out) (p : Prm)
def WI : Code->List V->List Obj->Option COut
 | .skip,fr,H=>some [(.normal,fr,H)]
 | .region _ ops d,fr,H=>(if d=true then Oz P call p ops.toList fr H else B4 P call (ops.toList.map (·.dst)) ops.toList fr H).map nrm
 | .seq x y,fr,H=>match WI x fr H with
  | some rs=>JR (fun r=>match r.1 with
   | .normal=>WI y r.2.1 r.2.2
   | e=>some [(e,r.2.1,r.2.2)]) rs
  | none=>none
 | .cond c x y,fr,H=>match ev fr c with
  | .p (.bool b)=>if b=true then WI x fr H else WI y fr H
  | _=>none
 | .block id c,fr,H=>match WI c fr H with
  | some rs=>some (rs.map (vO id))
  | none=>none
 | .exit id,fr,H=>some [(.exit id,fr,H)]
 | .ret,fr,H=>some [(.ret,fr,H)]
 | .loop c,fr,H=>LJ (fun fr H=>WI c fr H) p.rounds fr H
 | _,_,_=>none
variable {P} {call} {p}
theorem C4 {c:Code} {Q Q':Exit->Act->World->Prop} (hq: ∀e a w,Q e a w->Q' e a w): ∀ {n a w},Code.rounds P c Q n a w->Code.rounds P c Q' n a w
 | 0,_,_,h=>h
 | n+1,a,w,h=>wp_mono h fun e a w q=>by
  cases e with
  | normal=>exact C4 hq q
  | _=>exact hq _ _ _ q
theorem Pq {c:Code} {f:List V->List Obj->Option COut} (hb: ∀fr H rs,f fr H=some rs->AWP P c fr H fun e fr' H'=>(e,fr',H')∈rs): ∀ {n fr H rs},LJ f n fr H=some rs-> ∀F ι a w,Rel F H ι w->Fr F H ι w fr a ->
  Code.rounds P c (fun e a' w'=> ∃fr' H' ι',(e,fr',H')∈rs/\Good F H ι w H' ι' w'/\Fr F H' ι' w' fr' a') n a w
 | 0,_,_,_,h=>by simp [LJ] at h
 | n+1,fr,H,rs,h=>fun F ι a w hr hf=>by
  simp only [LJ] at h
  split at h
  ·rename_i rs0 h0;refine wp_mono (hb fr H rs0 h0 F ι a w hr hf) ?_;rintro e a' w' ⟨fr',H',ι',hm,g,f'⟩;obtain ⟨z,h1,h2⟩:=W2 h _ hm
   cases e with
   | normal =>
    simp only at h1;exact C4 (fun e a2 w2 ⟨fr2,H2,ι2,hm2,g2,f2⟩=>⟨fr2,H2,ι2,h2 _ hm2,g.trans g2,f2⟩) (Pq hb h1 F ι' a' w' g.rel f')
   | _ =>
    simp only [XT] at h1;subst h1;exact ⟨fr',H',ι',h2 _ Zb,g,f'⟩
  ·cases h
theorem UD (hc:WM P call) (hm:P.follows .mixedOrders=true): ∀(c:Code) (fr:List V) (H:List Obj) (rs:COut),WI P call p c fr H=some rs->AWP P c fr H fun e fr' H'=>(e,fr',H')∈rs
 | .skip,fr,H,rs,h=>by
  grind [WI,I1]
 | .region id ops d,fr,H,rs,h=>by
  simp only [WI,Zl] at h;obtain ⟨rs0,h0,rfl⟩:=h;have hk: ∀r∈rs0,(Exit.normal,r.1,r.2)∈nrm rs0:=fun r hr=>Ww.2 ⟨r,hr,rfl⟩
  grind [To,vI,B5]
 | .seq x y,fr,H,rs,h=>by
  simp only [WI] at h
  split at h
  ·rename_i rs0 h0;refine VC ((UD hc hm x fr H rs0 h0).mono fun e fr' H' hm'=> ?_);obtain ⟨z,h1,h2⟩:=W2 h _ hm'
   cases e with
   | normal=>exact (UD hc hm y fr' H' z h1).mono fun e fr H hq=>h2 _ hq
   | _ =>
    simp only [XT] at h1;subst h1;exact h2 _ Zb
  ·cases h
 | .cond c x y,fr,H,rs,h=>by
  simp only [WI] at h;refine IX ?_;unfold VG
  split at h
  ·rename_i b hb;rw [hb];simp only
   split at h
   ·rename_i e;exact ⟨fun _=>UD hc hm x fr H rs h,fun e2=>by rw [e] at e2;cases e2⟩
   ·rename_i e;exact ⟨fun e2=>absurd e2 e,fun _=>UD hc hm y fr H rs h⟩
  ·cases h
 | .block id c,fr,H,rs,h=>by
  simp only [WI] at h
  split at h
  ·rename_i rs0 h0;simp only [XT] at h;subst h;refine FX ((UD hc hm c fr H rs0 h0).mono fun e fr' H' hm'=> ?_);have:=List.mem_map_of_mem (f:=vO id) hm';simp only [vO] at this
   cases e with
   | exit id' =>
    simp only [Uj];simp only at this
    split
    ·rename_i e;rw [if_pos e] at this;exact this
    ·rename_i e;rw [if_neg e] at this;exact this
   | _=>exact this
  ·cases h
 | .exit id,fr,H,rs,h=>by
  grind [WI,IY]
 | .ret,fr,H,rs,h=>by
  grind [WI,OT]
 | .loop c,fr,H,rs,h=>by
  simp only [WI] at h;exact fun F ι a w hr hf=>wp_loop_rounds _ (Pq (fun fr H rs h=>UD hc hm c fr H rs h) h F ι a w hr hf)
 | .rangeFunc _ _ _ _,_,_,_,h=>by simp [WI] at h
 | .scope _,_,_,_,h=>by simp [WI] at h
 | .label _,_,_,_,h=>by simp [WI] at h
 | .goto _,_,_,_,h=>by simp [WI] at h
 | .refuse _,_,_,_,h=>by simp [WI] at h
end
def fzR (n0:Nat) (s:List V×List Obj):List V×List Obj:=sV ((List.range (s.2.length-n0)).map (n0+ ·)) s
theorem wT {k n0:Nat} (s:List V×List Obj):Weak k s.1 s.2 (fzR n0 s).1 (fzR n0 s).2:=HM _ s
theorem AWP.weakQ {P c fr H} {Q':Exit->List V->List Obj->Prop} (h:AWP P c fr H fun e fr' H'=> ∃fr'' H'',Weak H.length fr' H' fr'' H''/\Q' e fr'' H''):AWP P c fr H Q':=fun F ι a w hr hf =>
 wp_mono (h F ι a w hr hf) fun e a' w' ⟨fr',H',ι',⟨fr2,H2,hw,q⟩,g,f⟩=>by
  obtain ⟨ι2,r2,f2,g2⟩:=hw F ι' a' w' g.rel f
  grind
def Zm3 (n:Nat):Obj->Bool
 | .cells cs=>Xf n cs
 | .bld _ _ q _=>decide (q<n)
 | _=>true
def wH (n:Nat) (x:V) (H:List Obj):Bool:=refB n x&&(decide (n<=H.length)&&(H.take n).all (Zm3 n))
theorem mP {n:Nat} {x:V} {H:List Obj} (h:wH n x H=true):Weak n [x] H [x] (H.take n):=by
 simp only [wH,ZG,Zr,Zw] at h;obtain ⟨h1,h2,h3⟩:=h
 have e:(H.take n).length=n:=by simp;omega
 refine Weak.of Za ⟨.inr (.inl ⟨rfl,by grind⟩),trivial⟩ ?_ (by simp;omega);rw [e];have:=Ff (H:=H) (n:=n) (H.take n) (H.drop n) (fun j cs hj i c hi=>Xs (h3 _ (Xq hj)) i c hi) fun j T E q bs hj=>Jo (h3 _ (Xq hj))
 simp_all
def Zmx : Exit->Bool
 | .normal=>true
 | .ret=>true
 | _=>false
def Zg4 (P:Program) (keep:Bool) (n0:Nat) (res:List ResultVar) (r:Exit×List V×List Obj):Option Out :=
 if Zmx r.1=true then
  match (if keep=true then none else (let s:=fzR n0 r.2
   match Yz P s.1 s.2 res with
   | some xs=>if wH n0 (Va xs) s.2=true then some (Va xs,s.2.take n0) else none
   | none=>none)) with
  | some z=>some [z]
  | none=>match Yz P r.2.1 r.2.2 res with
   | some xs=>some [(Va xs,r.2.2)]
   | none=>none
 else none
def NY (a b:V×List Obj):Bool:=V.eqb a.1 b.1&&match D3 a.2 b.2 with | some []=>true | _=>false
theorem SB {a b:V×List Obj} (h:NY a b=true):a=b:=by
 simp only [NY,ZG] at h;obtain ⟨h1,h2⟩:=h
 split at h2
 ·rename_i hb;have:=Q9 hb
  grind [V.eqb_ok]
 ·cases h2
def bJ : Out->Out
 | []=> []
 | a::l=>if l.all (NY a)=true then [a] else a::l
theorem Sd {l:Out} {a:V×List Obj} (h:a∈l):a∈bJ l:=by
 cases l with
 | nil=>exact h
 | cons b l =>
  rw [bJ]
  split
  ·rename_i YB;rcases Yj.1 h with rfl | h
   ·simp
   grind [SB]
  ·exact h
def Zio (n0:Nat) (a b:V×List Obj):Bool:=V.eqb b.1 (.sl a.2.length 0 0 0)&&(decide (n0<=a.2.length)&&match D3 a.2 b.2 with
 | some [.elems _ []]=>true
 | _=>false)
def mrg (n0:Nat) (l:Out) (a:V×List Obj):V×List Obj:=match a.1 with
 | .p (.list true [])=>match l.find? (Zio n0 a) with
  | some b=>b
  | none=>a
 | _=>a
theorem ZbJ {n0:Nat} {l:Out} (a:V×List Obj):Weak n0 [a.1] a.2 [(mrg n0 l a).1] (mrg n0 l a).2:=by
 unfold mrg
 split
 ·rename_i ha
  split
  ·rename_i b hb;have h:=Jy hb;simp only [Zio,ZG,Zr] at h;obtain ⟨h1,h2,h3⟩:=h
   split at h3
   ·rename_i S hbe;have e:=Q9 hbe;have e1:=V.eqb_ok _ _ h1;rw [e,e1,ha];exact Weak.nil 0 S (by rfl) h2
   ·cases h3
  simp [Weak.refl]
 simp [Weak.refl]
def knB (g:FuncId) (args:List V) (k:FuncId×List V×V):Bool:=k.1==g&&V.eqbs k.2.1 args
def KnL (P:Program) (l:List (FuncId×List V×V)):Prop:= ∀k∈l,ACalls P k.1 k.2.1 [] (fun x H'=>x=k.2.2/\H'= [])/\Xf 0 k.2.1=true/\ ∀n,shV n k.2.2=k.2.2
theorem KnL.cons {P:Program} {g:FuncId} {a:List V} {r:V} {l:List (FuncId×List V×V)} (h:ACalls P g a [] fun y H'=>y=r/\H'= []) (h1:Xf 0 a=true) (h2: ∀n,shV n r=r) (t:KnL P l):KnL P ((g,a,r)::l):=fun k hk=>by
 rcases Yj.1 hk with rfl | hk
 ·grind
 ·exact t k hk
def TH (P:Program) (p:Prm):Prop:=KnL P p.kn
def G4 (P:Program) (p:Prm):Nat->FuncId->List V->List Obj->Option Out
 | 0,_,_,_=>none
 | n+1,g,args,H=>if (p.fa.contains g&& !(EV args).isEmpty)=true then none else match p.kn.find? (knB g args) with
  | some k=>some [(k.2.2,H)]
  | none=>match P.funcs[g]? with
   | some fn => if (fn.name == "runtime.NumGoroutine") = true then none else match fn.body with
    | some c=>match WI P (G4 P p n) p c (args++List.replicate (fn.ntmps-args.length) .junk) H with
     | some rs=>(JR (Zg4 P (p.kp.contains g) H.length fn.results.toList) rs).map fun l=>bJ (l.map (mrg H.length l))
     | none=>none
    | none=>none
   | none=>none
theorem dQ {P : Program} {g : FuncId} {fn : Func} {c : Code} (hf : P.funcs[g]? = some fn) (hn : (fn.name == "runtime.NumGoroutine") = false) (hb : fn.body = some c) : Zh P g := fun args w => by
 unfold callFunc;simp [hf,hb]
 grind
theorem Fg {P:Program} {p:Prm} (hm:P.follows .mixedOrders=true) (hkn:TH P p): ∀n,WM P (G4 P p n)
 | 0=>fun g a H rs h=>by simp [G4] at h
 | n+1=>fun g args H rs h=>by
  simp only [G4] at h
  split at h
  ·cases h
  split at h
  ·rename_i k hk;simp only [XT] at h;subst h;obtain ⟨h1,h2,h3⟩:=hkn k (YN hk);have hb:=Jy hk;simp only [knB,ZG,beq_iff_eq] at hb;rw [<- hb.1,<- V.eqbs_ok _ _ hb.2];refine (h1.behind h2 H).mono ?_
   grind
  split at h
  ·rename_i fn hf
   split at h
   ·cases h
   ·rename_i hn
    split at h
    ·rename_i c hb
     split at h
     ·rename_i rs0 h0;simp only [Zl] at h;obtain ⟨rs1,h1,rfl⟩:=h;have hk:=UD (Fg (p:=p) hm hkn n) hm c _ H rs0 h0;refine ACalls.weak (ACalls.mono (Q:=fun x H'=>(x,H')∈rs1) ?_ fun x H' hx=>⟨_,_,ZbJ (n0:=H.length) (l:=rs1) (x,H'),Sd (List.mem_map_of_mem hx)⟩);refine ACalls.weak (Ya hf hb (dQ hf (by grind) hb) (AWP.weakQ (hk.mono fun e fr' H' hmem=> ?_)));obtain ⟨z,h2,h3⟩:=W2 h1 _ hmem;simp only [Zg4] at h2
      split at h2
      ·rename_i he
       have hret: ∀ {fr H} {xs} {Q:V->List Obj->Prop},Yz P fr H fn.results.toList=some xs->Q (Va xs) H->JN P fn.results.toList Q e fr H:=fun {fr H xs Q} hx hq=>by
        cases e with
        | normal=>grind [JN]
        | ret=>grind [JN]
        | _=>cases he
       split at h2
       ·rename_i z1 hz;simp only [XT] at h2;subst h2
        split at hz
        ·cases hz
        ·split at hz
         ·rename_i xs hx
          split at hz
          ·rename_i hcut;simp only [XT] at hz;subst hz;refine ⟨_,_,wT (n0:=H.length) (fr',H'),hret hx ⟨_,_,mP hcut,?_⟩⟩
           grind
          ·cases hz
         ·cases hz
       ·split at h2
        ·rename_i xs hx;simp only [XT] at h2;subst h2;exact ⟨fr',H',Weak.refl _ _ _,hret hx ⟨_,_,Weak.refl _ _ _,h3 _ Zb⟩⟩
        ·cases h2
      ·cases h2
     ·cases h
    ·cases h
  ·cases h
theorem iJ {P:Program} (p:Prm) (n:Nat) {g:FuncId} (hm:P.follows .mixedOrders=true) (h:G4 P p n g [] []=some [(.p (.bool true),[])]) (hk:TH P p:=by simp [TH,KnL]):ACalls P g [] [] fun y H'=>y= .p (.bool true)/\H'= [] :=
 (Fg hm hk n g [] [] _ h).mono fun x H' hm=>by
  grind
theorem YA {P:Program} (p:Prm) (n:Nat) {g:FuncId} {args:List V} {x:V} {H':List AM.Obj} (hm:P.follows .mixedOrders=true) (h:G4 P p n g args []=some [(x,H')]) (hk:TH P p:=by simp [TH,KnL]):ACalls P g args [] fun y H=>y=x/\H=H' :=
 (Fg hm hk n g args [] _ h).mono fun y H hq=>by
  grind
end Go.AM
namespace Go.Proofs.YtiigdaohjanidaaGreatDoor.K
open Go Go.AM Go.Proofs
set_option maxRecDepth 60000
set_option maxHeartbeats 8000000
theorem Yc : dC 1= .lp (.agg (tabB.map (.int .u8))) 0:=rfl
theorem WO {s:Option (Option Nat×Nat)} {H:List AM.Obj} {x:V} {E k:Int} {K:V->Prop} (h:E=k) (hk:Di (V5 s H x (.p (.int .u64 k))) K):Di (V5 s H x (.p (.int .u64 E))) K:=h ▸ hk
def Ag (n:Nat):Int:=if n%2=1 then 0 else if n%4=2 then 1 else if n%8=4 then 2 else 3
theorem C7 {P Q:Prop} (h:Q) (e:Q->P:=by intro h;simp (disch:=omega) only [tabB,go_sem,seval];exact h):P:=e h
theorem Zcm (n:Nat) (h0:0<n) (h:n<16):PC 210 [.p (.int .u64 n)] (.int .i64 (Ag n)):=by
 have hc:n=1\/n=2\/n=3\/n=4\/n=5\/n=6\/n=7\/n=8\/n=9\/n=10\/n=11\/n=12\/n=13\/n=14\/n=15:=Za
 rcases hc with rfl | rfl | rfl | rfl | rfl | rfl | rfl | rfl | rfl | rfl | rfl | rfl | rfl | rfl | rfl
 ·refine Zc Tryz.func210 rfl WP ?_;simp (disch:=omega) only [Tryz.f210,Yc,go_sem,seval];refine WO (k:=0) (by decide+kernel) (C7 ?_)
  try rfl
 ·refine Zc Tryz.func210 rfl WP ?_;simp (disch:=omega) only [Tryz.f210,Yc,go_sem,seval];refine WO (k:=1) (by decide+kernel) (C7 ?_)
  try rfl
 ·refine Zc Tryz.func210 rfl WP ?_;simp (disch:=omega) only [Tryz.f210,Yc,go_sem,seval];refine WO (k:=0) (by decide+kernel) (C7 ?_)
  try rfl
 ·refine Zc Tryz.func210 rfl WP ?_;simp (disch:=omega) only [Tryz.f210,Yc,go_sem,seval];refine WO (k:=3) (by decide+kernel) (C7 ?_)
  try rfl
 ·refine Zc Tryz.func210 rfl WP ?_;simp (disch:=omega) only [Tryz.f210,Yc,go_sem,seval];refine WO (k:=0) (by decide+kernel) (C7 ?_)
  try rfl
 ·refine Zc Tryz.func210 rfl WP ?_;simp (disch:=omega) only [Tryz.f210,Yc,go_sem,seval];refine WO (k:=1) (by decide+kernel) (C7 ?_)
  try rfl
 ·refine Zc Tryz.func210 rfl WP ?_;simp (disch:=omega) only [Tryz.f210,Yc,go_sem,seval];refine WO (k:=0) (by decide+kernel) (C7 ?_)
  try rfl
 ·refine Zc Tryz.func210 rfl WP ?_;simp (disch:=omega) only [Tryz.f210,Yc,go_sem,seval];refine WO (k:=7) (by decide+kernel) (C7 ?_)
  try rfl
 ·refine Zc Tryz.func210 rfl WP ?_;simp (disch:=omega) only [Tryz.f210,Yc,go_sem,seval];refine WO (k:=0) (by decide+kernel) (C7 ?_)
  try rfl
 ·refine Zc Tryz.func210 rfl WP ?_;simp (disch:=omega) only [Tryz.f210,Yc,go_sem,seval];refine WO (k:=1) (by decide+kernel) (C7 ?_)
  try rfl
 ·refine Zc Tryz.func210 rfl WP ?_;simp (disch:=omega) only [Tryz.f210,Yc,go_sem,seval];refine WO (k:=0) (by decide+kernel) (C7 ?_)
  try rfl
 ·refine Zc Tryz.func210 rfl WP ?_;simp (disch:=omega) only [Tryz.f210,Yc,go_sem,seval];refine WO (k:=3) (by decide+kernel) (C7 ?_)
  try rfl
 ·refine Zc Tryz.func210 rfl WP ?_;simp (disch:=omega) only [Tryz.f210,Yc,go_sem,seval];refine WO (k:=0) (by decide+kernel) (C7 ?_)
  try rfl
 ·refine Zc Tryz.func210 rfl WP ?_;simp (disch:=omega) only [Tryz.f210,Yc,go_sem,seval];refine WO (k:=1) (by decide+kernel) (C7 ?_)
  try rfl
 ·refine Zc Tryz.func210 rfl WP ?_;simp (disch:=omega) only [Tryz.f210,Yc,go_sem,seval];refine WO (k:=0) (by decide+kernel) (C7 ?_)
  try rfl
end Go.Proofs.YtiigdaohjanidaaGreatDoor.K
