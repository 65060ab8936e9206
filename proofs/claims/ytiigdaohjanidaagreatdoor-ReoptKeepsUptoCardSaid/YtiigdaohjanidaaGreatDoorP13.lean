/- Declarations that the closing texts need, part 13: joined by tools/slim.py. -/
import Derived.Test.YtiigdaohjanidaaGreatDoorP12
import Derived.LoopN
set_option linter.unusedVariables false
set_option linter.unusedSimpArgs false
namespace Go.AM
open Go.RowKit
mutual
def PV.eqb : PV->PV->Bool
 | .int k n,.int k' n'=>decide (k=k')&&decide (n=n')
 | .bool b,.bool b'=>b==b'
 | .str s,.str s'=>decide (s=s')
 | .list c l,.list c' l'=>c==c'&&PV.eqbs l l'
 | .agg l,.agg l'=>PV.eqbs l l'
 | .nilp,.nilp=>true
 | .nili,.nili=>true
 | .nilf,.nilf=>true
 | .nilm,.nilm=>true
 | .fn f,.fn f'=>decide (f=f')
 | _,_=>false
def PV.eqbs : List PV->List PV->Bool
 | [],[]=>true
 | x::l,y::l'=>PV.eqb x y&&PV.eqbs l l'
 | _,_=>false
end
mutual
theorem PV.eqb_ok : ∀x y:PV,PV.eqb x y=true->x=y:=fun x y h=>by
 cases x<;>cases y<;>simp only [PV.eqb,Zy,Zp,beq_iff_eq,Yi] at h
 ·grind
 ·subst h;rfl
 ·subst h;rfl
 ·obtain ⟨rfl,h⟩:=h;rw [PV.eqbs_ok _ _ h]
 ·rw [PV.eqbs_ok _ _ h]
 ·rfl
 ·rfl
 ·rfl
 ·rfl
 grind
theorem PV.eqbs_ok : ∀x y:List PV,PV.eqbs x y=true->x=y
 | [],[],_=>rfl
 | x::l,y::l',h=>by
  simp only [PV.eqbs,Zy] at h;rw [PV.eqb_ok x y h.1,PV.eqbs_ok l l' h.2]
 | [],_::_,h=>by simp [PV.eqbs] at h
 | _::_,[],h=>by simp [PV.eqbs] at h
end
mutual
def V.eqb : V->V->Bool
 | .p x,.p y=>PV.eqb x y
 | .agg l,.agg l'=>V.eqbs l l'
 | .fn (.func f) a b,.fn (.func f') a' b'=>decide (f=f')&&(V.eqbs a a'&&V.eqbs b b')
 | .ptr o i,.ptr o' i'=>decide (o=o')&&decide (i=i')
 | .ep o i j t,.ep o' i' j' t'=>decide (o=o')&&(decide (i=i')&&(decide (j=j')&&decide (t=t')))
 | .sl o i j t,.sl o' i' j' t'=>decide (o=o')&&(decide (i=i')&&(decide (j=j')&&decide (t=t')))
 | .lp x i,.lp x' i'=>PV.eqb x x'&&decide (i=i')
 | .tup l,.tup l'=>V.eqbs l l'
 | .mp o,.mp o'=>decide (o=o')
 | .bp o,.bp o'=>decide (o=o')
 | .junk,.junk=>true
 | _,_=>false
def V.eqbs : List V->List V->Bool
 | [],[]=>true
 | x::l,y::l'=>V.eqb x y&&V.eqbs l l'
 | _,_=>false
end
mutual
theorem V.eqb_ok : ∀x y:V,V.eqb x y=true->x=y:=fun x y h=>by
 unfold V.eqb at h
 split at h<;>try simp only [Zy,Zp,Yi] at h
 ·rw [PV.eqb_ok _ _ h]
 ·rw [V.eqbs_ok _ _ h]
 ·obtain ⟨rfl,h1,h2⟩:=h;rw [V.eqbs_ok _ _ h1,V.eqbs_ok _ _ h2]
 ·grind
 ·grind
 ·grind
 ·obtain ⟨h1,rfl⟩:=h;rw [PV.eqb_ok _ _ h1]
 ·rw [V.eqbs_ok _ _ h]
 ·rw [h]
 ·rw [h]
 ·rfl
theorem V.eqbs_ok : ∀x y:List V,V.eqbs x y=true->x=y
 | [],[],_=>rfl
 | x::l,y::l',h=>by
  simp only [V.eqbs,Zy] at h;rw [V.eqb_ok x y h.1,V.eqbs_ok l l' h.2]
 | [],_::_,h=>by simp [V.eqbs] at h
 | _::_,[],h=>by simp [V.eqbs] at h
end
def Do : List (PV×PV)->List (PV×PV)->Bool
 | [],[]=>true
 | x::l,y::l'=>(PV.eqb x.1 y.1&&PV.eqb x.2 y.2)&&Do l l'
 | _,_=>false
theorem HK : ∀x y,Do x y=true->x=y
 | [],[],_=>rfl
 | x::l,y::l',h=>by
  simp only [Do,Zy] at h;rw [Prod.ext (PV.eqb_ok _ _ h.1.1) (PV.eqb_ok _ _ h.1.2),HK l l' h.2]
 | [],_::_,h=>by simp [Do] at h
 | _::_,[],h=>by simp [Do] at h
def Obj.eqb : Obj->Obj->Bool
 | .cells l,.cells l'=>V.eqbs l l'
 | .elems s l,.elems s' l'=>decide (s=s')&&PV.eqbs l l'
 | .map l,.map l'=>Do l l'
 | .dead,.dead=>true
 | _,_=>false
theorem Obj.eqb_ok (x y:Obj) (h:Obj.eqb x y=true):x=y:=by
 unfold Obj.eqb at h
 split at h<;>try simp only [Zy,Zp,Yi] at h
 ·rw [V.eqbs_ok _ _ h]
 ·obtain ⟨rfl,h⟩:=h;rw [PV.eqbs_ok _ _ h]
 ·rw [HK _ _ h]
 ·rfl
def EU : List Obj->List Obj->Option (List Obj)
 | [],r=>some r
 | x::l,y::r=>if Obj.eqb x y=true then EU l r else none
 | _::_,[]=>none
theorem Jk : ∀ {l r k:List Obj},EU l r=some k->r=l++k
 | [],r,k,h=>by grind [EU]
 | x::l,y::r,k,h=>by
  simp only [EU] at h
  split at h
  ·rename_i he;rw [Obj.eqb_ok _ _ he,Jk h];rfl
  ·cases h
 | _::_,[],k,h=>by simp [EU] at h
def Kg {α β:Type} (f:α->Option (List β)):List α->Option (List β)
 | []=>some []
 | a::l=>match f a with
  | some x=>match Kg f l with
   | some y=>some (x++y)
   | none=>none
  | none=>none
theorem Vq {α β:Type} {f:α->Option (List β)} : ∀ {l:List α} {rs:List β},Kg f l=some rs-> ∀a∈l,∃x,f a=some x/\ ∀b∈x,b∈rs
 | [],_,_,a,ha=>by simp at ha
 | c::l,rs,h,a,ha=>by
  simp only [Kg] at h
  split at h
  ·rename_i x hx
   split at h
   ·rename_i y hy;simp at h;subst h;rcases X2.1 ha with rfl | ha
    ·grind
    ·obtain ⟨z,h1,h2⟩:=Vq hy a ha
     grind
   ·cases h
  ·cases h
theorem Ji {P o fr H} {K K':V->List Obj->Prop} (hk: ∀x H',K x H'->K' x H') (h:Zx P o fr H K):Zx P o fr H K':=by
 unfold Zx at h ⊢
 split
 ·rename_i f azs ho;rw [ho] at h;simp only at h;unfold AV at h ⊢
  split at h
  ·exact h.mono hk
  ·exact h.mono hk
  omega
 grind
abbrev Out := List (V×List Obj)
def W5 (P:Program) (call:FuncId->List V->List Obj->Option Out):Prop:= ∀g a H rs,call g a H=some rs->ACalls P g a H fun x H'=>(x,H')∈rs
section
variable (P : Program) (call : FuncId -> List V -> List Obj -> Option Out)
def Ja (o:Oper) (fr:List V) (H:List Obj):Option Out :=
 match YL o.op with
 | some (f,azs)=>match ev fr f with
  | .fn (.func g) fs cs=>call g (fs++azs.map (ev fr)++cs) H
  | .p (.fn g)=>call g (azs.map (ev fr)) H
  | _=>none
 | none=>match Io P o.op fr H with
  | some r=>some [r]
  | none=>none
def GT (ds:List (Option Nat)):List Oper->List V->List Obj->Option (List (List V×List Obj))
 | [],fr,H=>some [(fr,H)]
 | o::r,fr,H=>match o.guard with
  | none=>match Ja P call o fr H with
   | some xs=>Kg (fun x=>GT ds r (Wj fr o.dst x.1) x.2) xs
   | none=>none
  | some (j,b)=>match CV fr ds j with
   | .p (.bool c)=>if c=b then (match Ja P call o fr H with
     | some xs=>Kg (fun x=>GT ds r (Wj fr o.dst x.1) x.2) xs
     | none=>none) else GT ds r (Wj fr o.dst (.tup [])) H
   | .tup []=>GT ds r (Wj fr o.dst (.tup [])) H
   | _=>none
variable {P} {call}
theorem K1 (hc:W5 P call) {o fr H rs} (h:Ja P call o fr H=some rs):Zx P o fr H fun x H'=>(x,H')∈rs:=by
 unfold Ja at h;unfold Zx
 split at h
 ·rename_i f azs ho;rw [ho];simp only;unfold AV
  split at h
  ·rename_i hf;rw [hf];exact hc _ _ _ _ h
  ·rename_i hf;rw [hf];exact hc _ _ _ _ h
  ·cases h
 grind
theorem CU (hc:W5 P call) {ds:List (Option Nat)} : ∀ {l:List Oper} {fr:List V} {H:List Obj} {rs} {K:List V->List Obj->Prop},GT P call ds l fr H=some rs->(∀r∈rs,K r.1 r.2)->YF P ds l fr H K
 | [],fr,H,rs,K,h,hk=>by
  simp only [GT,X9] at h;subst h;exact hk (fr,H) Zb
 | o::l,fr,H,rs,K,h,hk=>by
  have step: ∀ {rs},(match Ja P call o fr H with | some xs=>Kg (fun x=>GT P call ds l (Wj fr o.dst x.1) x.2) xs | none=>none)=some rs->(∀r∈rs,K r.1 r.2)->Zx P o fr H fun x H'=>YF P ds l (Wj fr o.dst x) H' K:=fun {rs} h hk=>by
   split at h
   ·rename_i xs hx;refine Ji (fun x H' hm=> ?_) (K1 hc hx);obtain ⟨z,h1,h2⟩:=Vq h _ hm;exact CU hc h1 fun r hr=>hk r (h2 r hr)
   ·cases h
  simp only [GT] at h;simp only [YF]
  split at h
  ·rename_i hg;rw [hg];exact step h hk
  ·rename_i j b hg;rw [hg];simp only;unfold XH
   split at h
   ·rename_i c hc';rw [hc'];simp only
    split at h
    ·rename_i hcb;exact ⟨fun _=>step h hk,fun e=>absurd hcb e⟩
    ·rename_i hcb;exact ⟨fun e=>absurd e hcb,fun _=>CU hc h hk⟩
   ·rename_i hc';rw [hc'];exact CU hc h hk
   ·cases h
end
mutual
/-- a value, where the own row o is a value from now on, wherever it stands -/
def fzD (o:Nat) (xs:List PV):V->V
 | .sl o' off len tot=>if o'=o/\xs.length=tot/\off+len<=tot then .p (.list false ((xs.take (off+len)).drop off)) else .sl o' off len tot
 | .agg cs=>mkA (gM o xs cs)
 | .tup cs=> .tup (gM o xs cs)
 | .p x=> .p x
 | .fn f a b=> .fn f a b
 | .ptr a b=> .ptr a b
 | .ep a b c d=> .ep a b c d
 | .lp a b=> .lp a b
 | .mp a=> .mp a
 | .bp a=> .bp a
 | .junk=> .junk
def gM (o:Nat) (xs:List PV):List V->List V
 | []=> []
 | x::l=>fzD o xs x::gM o xs l
end
theorem Ff {o:Nat} {xs:List PV} : ∀l:List V,gM o xs l=l.map (fzD o xs)
 | []=>by rfl
 | x::l=>by rw [gM,Ff l];rfl
theorem Weak.fzD {n0 fr H} (o:Nat) {S:Nat} {xs:List PV} (ho:H[o]? =some (.elems S xs)):Weak n0 fr H (fr.map (AM.fzD o xs)) ((H.map (Kp (AM.fzD o xs))).set o .dead) :=
 Weak.fzG (AM.fzD o xs) o ho fun {F H' ι ι' w} hX hHX row {x v} hv=>by
  have sl: ∀ {o' off len tot v},RV F H ι w (.sl o' off len tot) v->RV F H' ι' w (AM.fzD o xs (.sl o' off len tot)) v:=fun {o' off len tot v} hv=>by
   rw [AM.fzD]
   split
   ·grind
   ·exact hv.ext hX hHX
  induction hv with
  | agg cs a hs _ ih =>
   rw [AM.fzD,Ff];refine Px (by grind) fun j c hj=> ?_
   grind
  | tup cs a hs _ ih =>
   rw [AM.fzD,Ff];refine .tup _ _ (by grind) fun j c hj=> ?_
   grind
  | slNil o S a h hH=>exact sl (.slNil o S a h hH)
  | sl o off len tot b S cap t xs c h hH ht hw hcap hl hlen hm=>exact sl (.sl o off len tot b S cap t xs c h hH ht hw hcap hl hlen hm)
  | slD o off len tot v h=>exact sl (.slD o off len tot v h)
  | slS o off len tot v S xs h hne=>exact sl (.slS o off len tot v S xs h hne)
  | slC o tot b cap cs h hH hl hm=>exact sl (.slC o tot b cap cs h hH hl hm)
  | p x v h=>rw [AM.fzD];exact (RV.p x v h).ext hX hHX
  | fn f cs ds a e hs ht hr hq _ _=>rw [AM.fzD];exact (RV.fn f cs ds a e hs ht hr hq).ext hX hHX
  | ptr o off b cs h hH=>rw [AM.fzD];exact (RV.ptr o off b cs h hH).ext hX hHX
  | ep o i j tot b S xs h hH ht=>rw [AM.fzD];exact (RV.ep o i j tot b S xs h hH ht).ext hX hHX
  | lp x j b off u hX' hb hu hr=>rw [AM.fzD];exact (RV.lp x j b off u hX' hb hu hr).ext hX hHX
  | mp o b es h hH=>rw [AM.fzD];exact (RV.mp o b es h hH).ext hX hHX
  | bp o b T E r bs h hH=>rw [AM.fzD];exact (RV.bp o b T E r bs h hH).ext hX hHX
  | bpD o v h=>rw [AM.fzD];exact (RV.bpD o v h).ext hX hHX
  | junk v=>rw [AM.fzD];exact .junk v
  | mpD o v h=>rw [AM.fzD];exact (RV.mpD o v h).ext hX hHX
  | ptrD o off v h=>rw [AM.fzD];exact (RV.ptrD o off v h).ext hX hHX
  | epD o i j tot v h=>rw [AM.fzD];exact (RV.epD o i j tot v h).ext hX hHX
  | epS o i j tot v S xs h hne=>rw [AM.fzD];exact (RV.epS o i j tot v S xs h hne).ext hX hHX
def fz1 (s:List V×List Obj) (o:Nat):List V×List Obj:=match oat s.2 o with
 | .elems _ xs=>(s.1.map (fzD o xs),(s.2.map (Kp (fzD o xs))).set o .dead)
 | _=>s
theorem zW {n0:Nat} (s:List V×List Obj) (o:Nat):Weak n0 s.1 s.2 (fz1 s o).1 (fz1 s o).2:=by
 grind [fz1,Weak.fzD,Z8,Weak.refl]
def vX (os:List Nat) (s:List V×List Obj):List V×List Obj:=os.foldl fz1 s
theorem IX {n0:Nat} : ∀(os:List Nat) (s:List V×List Obj),Weak n0 s.1 s.2 (vX os s).1 (vX os s).2
 | [],s=>Weak.refl _ _ _
 | o::os,s=>(zW s o).trans (IX os _)
mutual
def NA : V->List Nat
 | .sl o _ _ _=> [o]
 | .agg cs=>FV cs
 | .tup cs=>FV cs
 | _=> []
def FV : List V->List Nat
 | []=> []
 | x::l=>NA x++FV l
end
def Di (o:Oper) (fr:List V) (H:List Obj):List Nat:=match o.op with
 | .call { callee:= .builtin .append,args:=azs,.. } =>(((azs.toList.drop 1).flatMap Ym).map (gt fr)).flatMap NA
 | .call { callee:= .builtin .copy,args:=azs,.. } =>(((azs.toList.drop 1).flatMap Ym).map (gt fr)).flatMap NA
 | .load _ x=>match ev fr x with
  | .ptr q _=>match oat H q with
   | .cells cs=>FV cs
   | _=> []
  | y=>NA y
 | op=>((WY op).map (gt fr)).flatMap NA
def WL (P:Program) (ops:Array Oper) (l:List Oper) (fr:List V) (H:List Obj) (K:List V->List Obj->Prop):Prop :=
 ∀(Q:Exit->Act->World->Prop) F ι a w,Rel F H ι w->Fr F H ι w fr a->(∀fr' H' ι' a' w',K fr' H'->Good F H ι w H' ι' w'->Fr F H' ι' w' fr' a'->Q .normal a' w')->wpList P ops Q l a w
def WR (P:Program) (ops:Array Oper) (o:Oper) (l:List Oper) (fr:List V) (H:List Obj) (K:List V->List Obj->Prop):Prop :=
 ∀(Q:Exit->Act->World->Prop) F ι a w,Rel F H ι w->Fr F H ι w fr a->(∀fr' H' ι' a' w',K fr' H'->Good F H ι w H' ι' w'->Fr F H' ι' w' fr' a'->Q .normal a' w')->o.wp P a w (wpList P ops Q l) Q
section
variable {P : Program} {ops : Array Oper} {l : List Oper} {o : Oper} {fr : List V} {H : List Obj} {K : List V -> List Obj -> Prop}
theorem WL.nil (h:K fr H):WL P ops [] fr H K:=fun Q F ι a w hr hf hq=>hq fr H ι a w h (Good.refl hr) hf
theorem WR.weak {fr' H'} (hw:Weak H.length fr H fr' H') (h:WR P ops o l fr' H' K):WR P ops o l fr H K:=fun Q F ι a w hr hf hq=>by
 obtain ⟨ι',r,f,g⟩:=hw F ι a w hr hf;exact h Q F ι' a w r f fun fr2 H2 ι2 a2 w2 k g2 f2=>hq fr2 H2 ι2 a2 w2 k ((g H ι w (Zv _) (Good.refl hr)).trans g2) f2
theorem WR.step (h:Zx P o fr H fun x H'=>WL P ops l (Wj fr o.dst x) H' K):WR P ops o l fr H K:=fun Q F ι a w hr hf hq =>
 U3 h hr hf fun x H' ι' v w' hk g r=>hk Q F ι' _ w' g.rel ((g.fr hf).put o.dst r) fun fr2 H2 ι2 a2 w2 k g2 f2=>hq fr2 H2 ι2 a2 w2 k (g.trans g2) f2
theorem WR.opX {B:V->List Obj->Prop} (hp:OpX P o fr H B) (hk: ∀y H2,B y H2->WL P ops l (Wj fr o.dst y) H2 K):WR P ops o l fr H K:=fun Q F ι a w hr hf hq=>by
 obtain ⟨y,H2,nx,v,ι2,w2,hB,hrun,e2,g2,hrv⟩:=hp F ι a w hr hf;have go: ∀v,RV F H2 ι2 w2 y v->wpList P ops Q l (a.put o.dst v) w2:=fun v hrv=>hk y H2 hB Q F ι2 _ w2 g2.rel ((g2.fr hf).put o.dst hrv) fun fr3 H3 ι3 a3 w3 k g3 f3=>hq fr3 H3 ι3 a3 w3 k (g2.trans g3) f3;unfold Oper.wp;rw [hrun];rcases e2 with rfl | ⟨rfl,rfl⟩
 ·exact go v hrv
 ·exact go undef hrv
theorem WL.cons (hg:o.guard=none) (h:WR P ops o l fr H K):WL P ops (o::l) fr H K:=fun Q F ι a w hr hf hq=>by
 simp only [wpList]
 have hw:Region.wanted o (yielded ops a.tmps)=true:=by simp [Region.wanted,hg]
 rw [if_pos hw];exact .inl (h Q F ι a w hr hf hq)
theorem WL.consB {j:Nat} {b c:Bool} (hg:o.guard=some (j,b)) (hc:CV fr (ops.toList.map (·.dst)) j= .p (.bool c)) (h1:c=b->WR P ops o l fr H K) (h2:c≠b->WL P ops l (Wj fr o.dst (.tup [])) H K):WL P ops (o::l) fr H K:=fun Q F ι a w hr hf hq=>by
 simp only [wpList];have hy:=Vf hf hc
 by_cases hcb:c=b
 ·have hw:Region.wanted o (yielded ops a.tmps)=true:=by grind [Region.wanted]
  rw [if_pos hw];exact .inl (h1 hcb Q F ι a w hr hf hq)
 ·have hw: ¬(Region.wanted o (yielded ops a.tmps)=true):=by grind [Region.wanted]
  rw [if_neg hw];exact h2 hcb Q F ι _ w hr (hf.put o.dst Wg) hq
theorem WL.consS {j:Nat} {b:Bool} (hg:o.guard=some (j,b)) (hc:CV fr (ops.toList.map (·.dst)) j= .tup []) (h:WL P ops l (Wj fr o.dst (.tup [])) H K):WL P ops (o::l) fr H K:=fun Q F ι a w hr hf hq=>by
 simp only [wpList];have hy:=Y4 hf hc
 have hw: ¬(Region.wanted o (yielded ops a.tmps)=true):=by simp [Region.wanted,hg,hy]
 rw [if_neg hw];exact h Q F ι _ w hr (hf.put o.dst Wg) hq
theorem yK {id:Nat} {Q:Exit->List V->List Obj->Prop} (h:WL P ops ops.toList fr H (Q .normal)):AWP P (.region id ops false) fr H Q:=fun F ι a w hr hf =>
 wp_region_list (h _ F ι a w hr hf fun fr' H' ι' _ _ k g f=>⟨fr',H',ι',k,g,f⟩)
end
theorem OpS.opX {P o fr H y H'} (h:OpS P o fr H y H'):OpX P o fr H fun x K=>x=y/\K=H':=fun F ι a w hr hf=>by
 obtain ⟨nx,v,ι',w',e,e2,g,r⟩:=h F ι a w hr hf
 grind
theorem OpN.opX {P o fr H B} (h:OpN P o fr H B):OpX P o fr H fun x K=>B x/\K=H:=fun F ι a w hr hf=>by
 obtain ⟨x,v,hB,e,r⟩:=h F ι a w hr hf;exact ⟨x,H,_,v,ι,w,⟨hB,rfl⟩,e,.inl rfl,Good.refl hr,r⟩
theorem OpX.mono {P o fr H} {B B':V->List Obj->Prop} (h:OpX P o fr H B) (hb: ∀x K,B x K->B' x K):OpX P o fr H B':=fun F ι a w hr hf=>by
 obtain ⟨y,H',nx,v,ι',w',q,r⟩:=h F ι a w hr hf
 grind
theorem TQ {P:Program} {o:Oper} {fr:List V} {H:List Obj} (t e:TypeId) (x y:Operand) (m by' S:Nat) (z:PV) (h:o.op= .makeSlice t x y) (hu:P.underlying t=some (.slice e)) (hs:YU P e=some S) (hzv:zval P e=some z) (hb:(P.info? e).map (·.bytes)=some by') (hS0:0<S) (hzl:z.cells.length=S) (hz1:z.cells.all (·.one)=true)
  (hby:by'*m<=281474976710656) (hm2:m<=281474976710656) (hX:ev fr x= .p (.int .i64 0)) (hY:ev fr y= .p (.int .i64 m)):OpS P o fr H (.sl H.length 0 0 0) (H++ [.elems S []]):=fun F ι a w hr hf=>by
 have hx:=hf.ev x;have hy:=hf.ev y;rw [hX] at hx;rw [hY] at hy
 cases hx with | p _ _ hx=>cases hy with | p _ _ hy =>
 obtain ⟨zz,hzz⟩: ∃zz,((P.info? e).bind (·.zero))=some zz:=by
  grind [zval,YP]
 have hrz:RP (Own F ι) w z zz:=AI hzz hzv;obtain ⟨z1,z2⟩:=VE hrz hz1;simp only [YP] at hzz;obtain ⟨ie,hie,hzz⟩:=hzz;simp [hie] at hb
 let arr:Array Value:=(Array.range (m*S)).map (zz.cells[· %zz.cells.size]!)
 have g:=Vi (H:=H) hr (Pushed.alloc w arr e) (.elems S []) ⟨m,by simp [arr],Zb,by unfold maxLen;omega,(fun i q hi=>by simp at hi),fun i q j c hi hj=>by simp at hi⟩;refine ⟨_,.slice (some ⟨w.heap.size,0,none⟩) 0 m,_,_,?_,.inl rfl,g,?_⟩
 ·have hw:IntKind.i64.wrap (m:Int)=m:=IntWalk.i64_in _ Za;have hw0:IntKind.i64.wrap (0:Int)=0:=rfl
  have h1: ¬((m:Int)<0):=Za
  have h2: ¬(281474976710656<((ie.bytes:Int)*(m:Int))):=by
   grind
  by_cases h0:m*S=0
  ·have e9:Array.range 0= #[]:=by rfl
   simp [execOp,h,hx.int_inv,hy.int_inv,Instr.makeSlice,asInt,asIntOf,run_underlying hu,typeInfo,hie,hw,hw0,h1,h2,XM hs,h0,newRow,e9,arr]
  ·simp [execOp,h,hx.int_inv,hy.int_inv,Instr.makeSlice,asInt,asIntOf,run_underlying hu,typeInfo,hie,hw,hw0,h1,h2,XM hs,h0,zeroValue,hzz,newRow,arr]
 ·have:=RV.sl (F:=F) (w:=w.alloc (.cells arr e)) (H:=H++ [.elems S []]) (ι:=ι++ [some w.heap.size]) H.length 0 0 0 w.heap.size S m e [] arr (by rw [<- hr.len];simp) Zb Zb (Pushed.new (Pushed.alloc w arr e)) (by simp [arr]) Za Za (by unfold maxLen;omega)
  grind
theorem jY {P:Program} {o:Oper} {fr:List V} {H:List Obj} {t t2 e:TypeId} {x y:Operand} {S:Nat} (h:o.op= .call { callee:= .builtin .append,args:= #[x,y],argTypes:= #[t,t2] }) (hu:P.underlying t=some (.slice e)) (hs:YU P e=some S) (hS:0<S)
  (hx:ev fr x= .p (.list true [])) (hsrc:Gx P H t2 (ev fr y)=some []):OpS P o fr H (.p (.list true [])) H:=fun F ι a w hr hf=>by
 have h1:=hf.ev x;have h2:=hf.ev y;rw [hx] at h1;obtain ⟨news,src⟩:=mA hsrc (by simp [Cs]) hS hr h2;have hn0:news= []:=Yt (by have:=src.len;grind);subst hn0;have e1:=src.first w rfl;simp at e1;have e3:=src.lenOf w;simp only [Zz] at e3
 suffices hh: ∃ad cap,a.eval x= .slice ad 0 cap by
  obtain ⟨ad,cap,ev'⟩:=hh
  have hrun:(Builtin.append_ #[t,t2] o.type #[a.eval x,a.eval y]).run P w= .ok (.slice ad 0 cap) w:=by
   rw [ev']
   rcases src.ty with hu2 | ⟨e2,hu2⟩<;>cases ad <;>
    simp [Builtin.append_,run_underlying hu,run_underlying hu2,XM hs,e3,e1,storeCells]
  exact ⟨_,.slice ad 0 cap,ι,w,by simp [execOp,h,resolve,invoke,builtin,hrun],.inl rfl,Good.refl hr,by grind⟩
 cases h1 with | p _ _ h1 =>
 generalize a.eval x=vx at h1
 cases h1 with
 | nils=>simp
 | emp=>simp
 | list _ _ b off cap=>simp
def Ia (P:Program) (o:Oper) (fr:List V) (H:List Obj):Option Out :=
 match o.op with
 | .binOp .eql t x (.const (.slice none 0 0)) _=>match P.underlying t,ev fr x with
  | some (.slice _),.p (.list _ xs)=>some (if xs.isEmpty=true then [(.p (.bool true),H),(.p (.bool false),H)] else [(.p (.bool false),H)])
  | _,_=>none
 | .binOp .neq t x (.const (.slice none 0 0)) _=>match P.underlying t,ev fr x with
  | some (.slice _),.p (.list _ xs)=>some (if xs.isEmpty=true then [(.p (.bool true),H),(.p (.bool false),H)] else [(.p (.bool true),H)])
  | _,_=>none
 | .call { callee:= .builtin .copy,args:=azs,argTypes:=ts } =>match azs.toList,ts.toList with
  | [x,y],[t,_]=>match P.underlying t with
   | some (.slice e)=>match (P.info? e).map (·.size),ev fr x,ev fr y with
    | some S,.sl ob i n m,.p (.list _ ys)=>match oat H ob with
     | .elems S' xs=>if (n=0\/ys.isEmpty=true)/\xs.length=m then some [(.p (.int .i64 0),H)] else if S'=S/\0<S/\i=0/\n=m/\xs.length=n/\ys.length<=n/\0<ys.length/\(ys.all fun q=>decide (q.cells.length=S)&&q.cells.all (·.one))=true then some [(.p (.int .i64 (ys.length:Nat)),H.set ob (.elems S (ys++xs.drop ys.length)))] else none
     | _=>none
    | some 1,.sl ob i n m,.sl ob' 0 n' m'=>match oat H ob with
     | .elems 1 xs=>if ob'=ob/\m'=m/\xs.length=m/\0<Nat.min n' n/\(xs.all (·.one))=true then some [(.p (.int .i64 (Nat.min n' n:Nat)),H.set ob (.elems 1 (xs.take i++xs.take (Nat.min n' n)++xs.drop (i+Nat.min n' n))))] else none
     | _=>none
    | _,_,_=>none
   | _=>none
  | _,_=>none
 | .call { callee:= .builtin .append,args:=azs,argTypes:=ts } =>match azs.toList,ts.toList with
  | [x,y],[t,t2]=>match P.underlying t with
   | some (.slice e)=>match YU P e,ev fr x,Gx P H t2 (ev fr y) with
    | some S,.p (.list true []),some []=>if 0<S then some [(.p (.list true []),H)] else none
    | _,_,_=>none
   | _=>none
  | _,_=>none
 | .makeSlice t x y=>match P.underlying t with
  | some (.slice e)=>match P.underlying e,YU P e,zval P e,(P.info? e).map (·.bytes),ev fr x,ev fr y with
   | some (.slice _),some 1,some z,some by',.p (.int .i64 n),.p (.int .i64 m)=>if 0<=n/\m=n/\z.one=true/\by'*n.toNat<=281474976710656/\n.toNat<=281474976710656 then some [(.sl H.length 0 n.toNat n.toNat,H++ [.cells (List.replicate n.toNat (.p z))])] else none
   | _,_,_,_,_,_=>none
  | _=>none
 | _=>none
theorem mZ {P o fr H rs} (h:Ia P o fr H=some rs):OpX P o fr H fun x K=>(x,K)∈rs:=by
 unfold Ia at h
 split at h
 ·rename_i t x t2 ho
  split at h
  ·rename_i e c xs hu hx;simp at h;subst h;refine (R3 ho hu hx fun a=>rfl).opX.mono ?_;rintro y K ⟨⟨b,rfl,hb⟩,rfl⟩
   cases xs with
   | nil=>simp
   | cons z zs =>
    grind
  ·cases h
 ·rename_i t x t2 ho
  split at h
  ·rename_i e c xs hu hx;simp at h;subst h;refine (jX ho hu hx fun a=>rfl).opX.mono ?_;rintro y K ⟨⟨b,rfl,hb⟩,rfl⟩
   cases xs with
   | nil=>simp
   | cons z zs =>
    grind
  ·cases h
 ·rename_i azs ts ho
  split at h
  ·rename_i x y t t2 e1 e2
   split at h
   ·rename_i e hu
    split at h
    ·rename_i S ob i n m c ys hs hx hy;obtain ⟨azs⟩:=azs;obtain ⟨ts⟩:=ts;simp at e1 e2;subst e1;subst e2
     split at h
     ·rename_i S' xs hH
      split at h
      ·rename_i hc;obtain ⟨h1,h2⟩:=hc;simp at h;subst h;refine (TP ho hu hs hx hy (Z8 hH Zb) h2 (h1.imp id List.isEmpty_iff.1)).opX.mono ?_;simp
      ·split at h
       ·rename_i hc;obtain ⟨rfl,h1,rfl,rfl,h2,h3,h4,h5⟩:=hc;simp at h;subst h;refine (TO ho hu hs h1 hx hy (Z8 hH Zb) h2 h3 h4 fun q hq=> ?_).opX.mono ?_
        ·grind
        simp
       ·cases h
     ·cases h
    ·rename_i ob i n m ob' n' m' hs hx hy;obtain ⟨azs⟩:=azs;obtain ⟨ts⟩:=ts;simp at e1 e2;subst e1;subst e2
     split at h
     ·rename_i xs hH
      split at h
      ·rename_i hc;obtain ⟨rfl,rfl,h1,h2,h3⟩:=hc;simp at h;subst h;refine (TN ho hu hs hx hy (Z8 hH Zb) h1 rfl h2 fun q hq=>Zt.1 h3 q hq).opX.mono ?_;simp
      ·cases h
     ·cases h
    ·cases h
   ·cases h
  ·cases h
 ·rename_i azs ts ho
  split at h
  ·rename_i x y t t2 e1 e2
   split at h
   ·rename_i e hu
    split at h
    ·rename_i S hs hx hy
     split at h
     ·rename_i hS;simp at h;subst h;obtain ⟨azs⟩:=azs;obtain ⟨ts⟩:=ts;simp at e1 e2;subst e1;subst e2;refine (jY ho hu hs hS hx hy).opX.mono ?_;simp
     ·cases h
    ·cases h
   ·cases h
  ·cases h
 ·rename_i t x y ho
  split at h
  ·rename_i e hu
   split at h
   ·rename_i z by' n m _ hs hz hb hx hy
    split at h
    ·rename_i hc;obtain ⟨h1,rfl,h2,h3,h4⟩:=hc;simp at h;subst h
     have en:((m.toNat:Nat):Int)=m:=Za
     refine (HG t e x y m.toNat by' z ho hu hs hz hb h2 h3 h4 (by rw [hx,en]) (by rw [hy,en])).opX.mono ?_;simp
    ·cases h
   ·cases h
  ·cases h
 ·cases h
def bL (P:Program) (o:Oper) (fr:List V) (H:List Obj):Option Out:=match o.op with
 | .makeSlice t x y=>match P.underlying t,ev fr x,ev fr y with
  | some (.slice e),.p (.int .i64 0),.p (.int .i64 m)=>match YU P e,zval P e,(P.info? e).map (·.bytes) with
   | some S,some z,some by'=>if 0<m/\0<S/\z.cells.length=S/\z.cells.all (·.one)=true/\by'*m.toNat<=281474976710656/\m.toNat<=281474976710656 then some [(.sl H.length 0 0 0,H++ [.elems S []])] else none
   | _,_,_=>none
  | _,_,_=>none
 | _=>none
theorem tY {P o fr H rs} (h:bL P o fr H=some rs):OpX P o fr H fun x K=>(x,K)∈rs:=by
 unfold bL at h
 split at h
 ·rename_i t x y ho
  split at h
  ·rename_i e m hu hx hy
   split at h
   ·rename_i S z by' hs hz hb
    split at h
    ·rename_i hc;obtain ⟨h0,h1,h2,h3,h4,h5⟩:=hc;simp at h;subst h
     have en:((m.toNat:Nat):Int)=m:=Za
     refine (TQ t e x y m.toNat by' S z ho hu hs hz hb h1 h2 h3 h4 h5 hx (by rw [hy,en])).opX.mono ?_;simp
    ·cases h
   ·cases h
  ·cases h
 ·cases h
def GS (P:Program) (o:Oper) (fr:List V) (H:List Obj):Option Out:=match bL P o fr H with
 | some r=>some r
 | none=>Ia P o fr H
theorem Su {P o fr H rs} (h:GS P o fr H=some rs):OpX P o fr H fun x K=>(x,K)∈rs:=by
 grind [GS,tY,mZ]
section
variable (P : Program) (call : FuncId -> List V -> List Obj -> Option Out)
def uA (o:Oper) (fr:List V) (H:List Obj):Option Out:=match o.op with
 | .makeSlice _ _ _=>match GS P o fr H with
  | some r=>some r
  | none=>Ja P call o fr H
 | .call { callee:= .builtin .append,.. } =>match GS P o fr H with
  | some r=>some r
  | none=>Ja P call o fr H
 | _=>match Ja P call o fr H with
  | some r=>some r
  | none=>GS P o fr H
def nC (o:Oper) (fr:List V) (H:List Obj):Option ((List V×List Obj)×Out):=match uA P call o fr H with
 | some xs=>some ((fr,H),xs)
 | none=>match uA P call o (vX (Di o fr H) (fr,H)).1 (vX (Di o fr H) (fr,H)).2 with
  | some xs=>some (vX (Di o fr H) (fr,H),xs)
  | none=>none
def CS (ds:List (Option Nat)):List Oper->List V->List Obj->Option (List (List V×List Obj))
 | [],fr,H=>some [(fr,H)]
 | o::r,fr,H=>match o.guard with
  | none=>match nC P call o fr H with
   | some (s,xs)=>Kg (fun x=>CS ds r (Wj s.1 o.dst x.1) x.2) xs
   | none=>none
  | some (j,b)=>match CV fr ds j with
   | .p (.bool c)=>if c=b then (match nC P call o fr H with
     | some (s,xs)=>Kg (fun x=>CS ds r (Wj s.1 o.dst x.1) x.2) xs
     | none=>none) else CS ds r (Wj fr o.dst (.tup [])) H
   | .tup []=>CS ds r (Wj fr o.dst (.tup [])) H
   | _=>none
variable {P} {call}
theorem Sv (hc:W5 P call) {ops:Array Oper} {l:List Oper} {o fr H rs} {K:List V->List Obj->Prop} (h:uA P call o fr H=some rs) (hk: ∀r∈rs,WL P ops l (Wj fr o.dst r.1) r.2 K):WR P ops o l fr H K:=by
 have h1: ∀ {rs},Ja P call o fr H=some rs->(∀r∈rs,WL P ops l (Wj fr o.dst r.1) r.2 K)->WR P ops o l fr H K:=fun h hk=>WR.step (Ji (fun x H' hm=>hk _ hm) (K1 hc h));have h2: ∀ {rs},GS P o fr H=some rs->(∀r∈rs,WL P ops l (Wj fr o.dst r.1) r.2 K)->WR P ops o l fr H K:=fun h hk=>WR.opX (Su h) fun y H2 hm=>hk _ hm
 grind [uA]
theorem tZ (hc:W5 P call) {ops:Array Oper} {l:List Oper} {o fr H s rs} {K:List V->List Obj->Prop} (h:nC P call o fr H=some (s,rs)) (hk: ∀r∈rs,WL P ops l (Wj s.1 o.dst r.1) r.2 K):WR P ops o l fr H K:=by
 unfold nC at h
 split at h
 ·rename_i xs hx;simp only [X9,Uw] at h;obtain ⟨rfl,rfl⟩:=h;exact Sv hc hx hk
 ·split at h
  ·rename_i xs hx;simp only [X9,Uw] at h;obtain ⟨rfl,rfl⟩:=h;exact (Sv hc hx hk).weak (IX (Di o fr H) (fr,H))
  ·cases h
theorem CT (hc:W5 P call) {ops:Array Oper} : ∀ {l:List Oper} {fr:List V} {H:List Obj} {rs} {K:List V->List Obj->Prop},CS P call (ops.toList.map (·.dst)) l fr H=some rs->(∀r∈rs,K r.1 r.2)->WL P ops l fr H K
 | [],fr,H,rs,K,h,hk=>by
  simp only [CS,X9] at h;subst h
  simp_all [WL.nil]
 | o::l,fr,H,rs,K,h,hk=>by
  have step: ∀ {rs},(match nC P call o fr H with | some (s,xs)=>Kg (fun x=>CS P call (ops.toList.map (·.dst)) l (Wj s.1 o.dst x.1) x.2) xs | none=>none)=some rs->(∀r∈rs,K r.1 r.2)->WR P ops o l fr H K:=fun {rs} h hk=>by
   split at h
   ·rename_i s xs hx;refine tZ hc hx fun r hr=> ?_;obtain ⟨z,h1,h2⟩:=Vq h r hr;exact CT hc h1 fun r hr=>hk r (h2 r hr)
   ·cases h
  simp only [CS] at h
  split at h
  ·rename_i hg;exact WL.cons hg (step h hk)
  ·rename_i j b hg
   split at h
   ·rename_i c hc';refine WL.consB hg hc' (fun e=> ?_) fun e=> ?_
    ·rw [if_pos e] at h;exact step h hk
    ·rw [if_neg e] at h;exact CT hc h hk
   ·rename_i hc';exact WL.consS hg hc' (CT hc h hk)
   ·cases h
end
structure Prm where
 kp:List FuncId:= []
 lt:List FuncId:= []
 lh:List FuncId:= []
 kn:List (FuncId×List V×V):= []
 fa:List FuncId:= []
 lb:Bool:=false
 rounds:Nat:=100000
def lateH? (p:Prm):Op->Bool
 | .call { callee:= .value (.func g),.. } =>p.lh.contains g
 | _=>false
def Zji (p:Prm):Op->Bool
 | .alloc _=>true
 | .box _ _=>true
 | .store _ _ _=>true
 | .makeSlice _ _ _=>true
 | .buildSlice _ _ _=>p.lb
 | .mapUpdate _ _ _ _=>true
 | .makeMap _ _=>true
 | .mapEntry _ _ _=>true
 | .entryStore _ _ _ _=>true
 | .call { callee:= .builtin .append,.. } =>true
 | .call { callee:= .builtin .copy,.. } =>true
 | .call { callee:= .value (.tmp _),.. } =>true
 | .call { callee:= .value (.func g),.. } =>p.lh.contains g||p.lt.contains g
 | _=>false
def msS (p:Prm) (l:List Oper) (n:Nat):List Nat:=(List.range n).foldl (fun ms i=>if (Zji p (Z2 l i).op||(WY (Z2 l i).op).any fun t=>ms.any fun m=>decide ((Z2 l m).dst=some t))=true then ms++ [i] else ms) []
def B1 (l:List Oper):Nat:=((List.range (l.length+1)).find? fun n=>decide (0<n)&&VG (List.toArray l) n).getD 0
section
variable (P : Program) (call : FuncId -> List V -> List Obj -> Option Out)
def Gs (o:Oper) (fr:List V) (H:List Obj):Option V :=
 match o.op with
 | .buildSlice t n ps=>match LU (QB P t) H n (ps.toList.map fun x=>(x.1,ev fr x.2)) with
  | some x=>some (.p x)
  | none=>none
 | .call { callee:= .builtin .append,args:=azs,argTypes:=ts } =>match azs.toList,ts.toList with
  | [x,y],[t,t2]=>match VJ P H t t2 (ev fr x) (ev fr y) with
   | some (.sl o i n m,H')=>match EU H H' with
    | some [.elems _ zs]=>if o=H.length/\i=0/\n=zs.length/\m=zs.length then some (.p (.list false zs)) else none
    | _=>none
   | _=>none
  | _,_=>none
 | op=>match YL op with
  | none=>match Xc P op fr H with
   | some y=>some y
   | none=>match WN P op fr H with
    | some (y,H')=>match EU H H' with
     | some []=>some y
     | _=>none
    | none=>none
  | some _=>match Ja P call o fr H with
   | some [(y,H')]=>match EU H H' with
    | some []=>some y
    | _=>none
   | _=>none
def tX (ds:List (Option Nat)) (H:List Obj):List Oper->List V->Option (List V)
 | [],fr=>some fr
 | o::r,fr=>match o.guard with
  | none=>match Gs P call o fr H with
   | some y=>tX ds H r (Wj fr o.dst y)
   | none=>none
  | some (j,b)=>match CV fr ds j with
   | .p (.bool c)=>if c=b then (match Gs P call o fr H with
     | some y=>tX ds H r (Wj fr o.dst y)
     | none=>none) else tX ds H r (Wj fr o.dst (.tup []))
   | .tup []=>tX ds H r (Wj fr o.dst (.tup []))
   | _=>none
def xlT (H:List Obj) (l:List Oper):Nat->List Nat->List V->List Obj->Option (List (List V×List Obj))
 | 0,_,fr,L=>some [(fr,H++L)]
 | n+1,rem,fr,L=>Kg (fun m=>match Ja P call (Z2 l m) fr (H++L) with
  | some [(y,H')]=>match EU H H' with
   | some L'=>xlT H l n (rem.erase m) (Wj fr (Z2 l m).dst y) L'
   | none=>none
  | _=>none) (VT l rem)
def ZdP (o:Oper) (fr:List V) (H:List Obj):Option Out:=match Ja P call o fr H with
 | some xs=>some xs
 | none=>GS P o fr H
def xlC (ko:List Nat) (l:List Oper):Nat->List Nat->List V->List Obj->Option (List (List V×List Obj))
 | 0,_,fr,H=>some [(fr,H)]
 | n+1,rem,fr,H=>Kg (fun m=>match ZdP P call (Z2 l m) fr H with
  | some xs=>if (xs.all fun x=>ko.all fun k=>Obj.eqb (oat x.2 k) (oat H k))=true then Kg (fun x=>xlC ko l n (rem.erase m) (Wj fr (Z2 l m).dst x.1) x.2) xs else none
  | none=>none) (VT l rem)
def ksS (l:List Oper) (n:Nat) (ms:List Nat):List Nat:=(List.range n).filter fun i=> !ms.contains i&&(!Kq (Z2 l i).op&& !(ms.all fun m=>DB l n i m))
def koV : V->Option Nat
 | .ptr o _=>some o
 | .sl o _ n m=>if n=m then some o else none
 | _=>none
def koS (l:List Oper) (fr:List V) (ks:List Nat):List Nat:=ks.filterMap fun i=>match ldP (Z2 l i) with
 | some p=>koV (gt fr p)
 | none=>none
def wD (l:List Oper) (fr:List V) (ks ko:List Nat):Bool:=ks.all fun i=>match ldP (Z2 l i) with
 | some p=>match koV (gt fr p) with
  | some o=>ko.contains o
  | none=>false
 | none=>true
def Ss (p:Prm) (l:List Oper) (fr:List V) (H:List Obj):Option (List (List V×List Obj)) :=
 let n:=B1 l
 let ms:=msS p l n
 if (VG (List.toArray l) n&&(KK (List.toArray (V8 ms l)) n&&(Fo l n ms&&decide (fr.length<=1000000))))=true then
  match tX P call (l.map (·.dst)) H ((V8 ms l).take n) fr with
  | some fr'=>match (if (ms.any fun m=>lateH? p (Z2 l m).op)=true then none else xlT P call H l ms.length ms fr' []) with
   | some rs=>Kg (fun r=>GT P call (l.map (·.dst)) (l.drop n) r.1 r.2) rs
   | none=>if (evC l n ms (ksS l n ms)&&wD l fr' (ksS l n ms) (koS l fr' (ksS l n ms)))=true then (match xlC P call (koS l fr' (ksS l n ms)) l ms.length ms fr' H with
    | some rs=>Kg (fun r=>GT P call (l.map (·.dst)) (l.drop n) r.1 r.2) rs
    | none=>none) else none
  | none=>none
 else none
def PM (p:Prm) (l:List Oper) (fr:List V) (H:List Obj):Option (List (List V×List Obj)):=match Ss P call p l fr H with
 | some rs=>some rs
 | none=>Ss P call p l (vX (l.flatMap fun o=>Di o fr H) (fr,H)).1 (vX (l.flatMap fun o=>Di o fr H) (fr,H)).2
variable {P} {call}
theorem SK {o fr H K} (h1: ∀t n ps,o.op≠ .buildSlice t n ps) (h2: ∀azs ts,o.op≠ .call { callee:= .builtin .append,args:=azs,argTypes:=ts }) (h:Zx P o fr H K):ZH P o fr H K:=by
 grind [ZH]
theorem bM (hc:W5 P call) {o fr H y} (h:Gs P call o fr H=some y):ZH P o fr H fun x H'=>x=y/\H'=H:=by
 unfold Gs at h
 split at h
 ·grind [ZH]
 ·rename_i azs ts ho;unfold ZH;rw [ho];simp only
  split at h
  ·rename_i x y t t2 e1 e2;rw [e1,e2];simp only
   split at h
   ·rename_i o' i n m H' ha
    split at h
    ·rename_i S zs hb
     split at h
     ·rename_i hcnd;obtain ⟨rfl,rfl,rfl,rfl⟩:=hcnd
      grind [Jk]
     ·cases h
    ·cases h
   ·cases h
  ·cases h
 ·rename_i op h1 h2;refine SK h1 h2 ?_
  split at h
  ·rename_i hcl;unfold Zx;rw [hcl];simp only [Io]
   split at h
   ·grind
   ·rename_i hz;rw [hz]
    split at h
    ·rename_i z H' hm;rw [hm]
     split at h
     ·rename_i hb;simp at h;subst h;have e:=Jk hb
      grind
     ·cases h
    ·cases h
  ·split at h
   ·rename_i z H' hx
    split at h
    ·rename_i hb;simp at h;subst h;refine Ji (fun x K hm=> ?_) (K1 hc hx);rw [List.mem_singleton,Uw] at hm;refine ⟨hm.1,?_⟩;rw [hm.2,Jk hb,Vw]
    ·cases h
   ·cases h
theorem Gq (hc:W5 P call) {ds:List (Option Nat)} {H:List Obj} : ∀ {l:List Oper} {fr fr':List V} {K:List V->Prop},tX P call ds H l fr=some fr'->K fr'->hs P ds H K l fr
 | [],fr,fr',K,h,hk=>by
  simp only [tX,X9] at h;subst h;exact hk
 | o::l,fr,fr',K,h,hk=>by
  have step:(match Gs P call o fr H with | some y=>tX P call ds H l (Wj fr o.dst y) | none=>none)=some fr'->bT (fun y=>ZH P o fr H (fun x H'=>x=y/\H'=H)) (fun y=>hs P ds H K l (Wj fr o.dst y)):=fun h=>by
   split at h
   ·rename_i y hy;exact ⟨y,bM hc hy,Gq hc h hk⟩
   ·cases h
  simp only [tX] at h;simp only [hs]
  split at h
  ·rename_i hg;rw [hg];exact step h
  ·rename_i j b hg;rw [hg];simp only;unfold XH
   split at h
   ·rename_i c hc';rw [hc'];simp only
    split at h
    ·rename_i hcb;exact ⟨fun _=>step h,fun e=>absurd hcb e⟩
    ·rename_i hcb;exact ⟨fun e=>absurd e hcb,fun _=>Gq hc h hk⟩
   ·rename_i hc';rw [hc'];exact Gq hc h hk
   ·cases h
theorem NQ (hc:W5 P call) {o fr H y H'} (h:Ja P call o fr H=some [(y,H')]):Zx P o fr H fun x K=>x=y/\K=H' :=
 Ji (fun x K hm=>by grind) (K1 hc h)
theorem nB (hc:W5 P call) {H:List Obj} {l:List Oper} : ∀ {n:Nat} {rem:List Nat} {fr:List V} {L:List Obj} {rs} {K:List V->List Obj->Prop},xlT P call H l n rem fr L=some rs->(∀r∈rs,∀L,r.2=H++L->K r.1 L)->QS P H l n rem fr L K
 | 0,rem,fr,L,rs,K,h,hk=>by
  simp only [xlT,X9] at h;subst h;exact hk (fr,H++L) Zb L rfl
 | n+1,rem,fr,L,rs,K,h,hk=>fun m hm=>by
  simp only [xlT] at h;obtain ⟨z,h1,h2⟩:=Vq h m hm
  split at h1
  ·rename_i y H' hx
   split at h1
   ·rename_i L' hb;have e:=Jk hb;subst e;exact ⟨y,L',NQ hc hx,nB hc h1 fun r hr=>hk r (h2 r hr)⟩
   ·cases h1
  ·cases h1
theorem N9 {P:Program} {o:Oper} {f1 f2:List V} {H:List Obj} (h:V1 (WY o.op) f1 f2):Ia P o f1 H=Ia P o f2 H:=by
 have key: ∀x:Operand,(∀t∈Ym x,t∈WY o.op)->ev f1 x=ev f2 x:=fun x hx=>UM fun t ht=>h t (hx t ht);unfold Ia
 split
 ·grind [WY]
 ·grind [WY]
 ·rename_i azs ts ho
  split
  ·rename_i x y t t2 e1 e2;obtain ⟨azs⟩:=azs;simp only at e1;rw [key x fun t ht=>by grind [WY],key y fun t ht=>by grind [WY]]
  ·rfl
 ·rename_i azs ts ho
  split
  ·simp_all [WY]
  ·rfl
 ·rename_i t x y ho;rw [key x fun t ht=>by grind [WY],key y fun t ht=>by grind [WY]]
 ·rfl
theorem PO {P:Program} {o:Oper} {f1 f2:List V} {H:List Obj} (h:V1 (WY o.op) f1 f2):bL P o f1 H=bL P o f2 H:=by
 have key: ∀x:Operand,(∀t∈Ym x,t∈WY o.op)->ev f1 x=ev f2 x:=fun x hx=>UM fun t ht=>h t (hx t ht);unfold bL
 split
 ·rename_i t x y ho;rw [key x fun t ht=>by grind [WY],key y fun t ht=>by grind [WY]]
 ·rfl
theorem PN {P:Program} {o:Oper} {f1 f2:List V} {H:List Obj} (h:V1 (WY o.op) f1 f2):GS P o f1 H=GS P o f2 H:=by
 grind [GS,PO,N9]
theorem uB {P:Program} {call:FuncId->List V->List Obj->Option Out} (hc:W5 P call) {o fr H rs} (h:ZdP P call o fr H=some rs):stX P o fr H fun x K=>(x,K)∈rs:=by
 unfold ZdP at h
 split at h
 ·rename_i xs hx;simp only [X9] at h;subst h;exact .inl (K1 hc hx)
 ·exact .inr fun f2 h2=>Su (by grind [PN])
theorem nA (hc:W5 P call) {ko:List Nat} {l:List Oper} : ∀ {n:Nat} {rem:List Nat} {fr:List V} {H:List Obj} {rs} {K:List V->List Obj->Prop},xlC P call ko l n rem fr H=some rs->(∀r∈rs,K r.1 r.2)->AZ P ko l n rem fr H K
 | 0,rem,fr,H,rs,K,h,hk=>by
  simp only [xlC,X9] at h;subst h;exact hk (fr,H) Zb
 | n+1,rem,fr,H,rs,K,h,hk=>fun m hm=>by
  simp only [xlC] at h;obtain ⟨z,h1,h2⟩:=Vq h m hm
  split at h1
  ·rename_i xs hx
   split at h1
   ·rename_i X8;refine ⟨_,uB hc hx,fun y H' hmem=> ?_⟩;obtain ⟨u,h3,h4⟩:=Vq h1 _ hmem;refine ⟨fun k hk=>Obj.eqb_ok _ _ (Zt.1 (Zt.1 X8 _ hmem) k hk),nA hc h3 fun r hr=>hk r (h2 r (h4 r hr))⟩
   ·cases h1
  ·cases h1
theorem iN {ko:List Nat} {x:V} {o:Nat} (h:koV x=some o) (hk:o∈ko):Fl ko x:=by
 unfold koV at h
 grind [UC,iJ]
theorem iI {l:List Oper} {fr:List V} {ks ko:List Nat} (h:wD l fr ks ko=true): ∀k∈ks,∀p,ldP (Z2 l k)=some p->Fl ko (gt fr p):=fun k hk p hp=>by
 have:=Zt.1 h k hk
 grind [iN]
theorem N8 (hc:W5 P call) (hm:P.follows .mixedOrders=true) {p:Prm} {id:Nat} {ops:Array Oper} {fr:List V} {H:List Obj} {rs} {Q:Exit->List V->List Obj->Prop} (h:Ss P call p ops.toList fr H=some rs) (hk: ∀r∈rs,Q .normal r.1 r.2):AWP P (.region id ops true) fr H Q:=by
 obtain ⟨l⟩:=ops;simp only [Ss] at h
 split at h
 ·rename_i hB;simp only [Zy,Zp] at hB;obtain ⟨hB,hR,hL,hfl⟩:=hB
  split at h
  ·rename_i fr' hf
   split at h
   ·rename_i rs1 h1
    split at h1
    ·cases h1
    ·refine XI (t:=⟨⟩) (msS p l (B1 l)) (B1 l) hm hB hR hL hfl (Gq hc hf (nB hc h1 fun r hr L e=> ?_));obtain ⟨z,h2,h3⟩:=Vq h r hr;rw [e] at h2;exact CU hc h2 fun r hr=>hk r (h3 r hr)
   ·split at h
    ·rename_i hE;simp only [Zy] at hE
     split at h
     ·rename_i rs1 h1;refine A9 (t:=⟨⟩) (msS p l (B1 l)) (ksS l (B1 l) (msS p l (B1 l))) (koS l fr' (ksS l (B1 l) (msS p l (B1 l)))) (B1 l) hm hB hR hL hE.1 hfl (Gq hc hf ⟨iI hE.2,nA hc h1 fun r hr=> ?_⟩);obtain ⟨z,h2,h3⟩:=Vq h r hr;exact CU hc h2 fun r hr=>hk r (h3 r hr)
     ·cases h
    ·cases h
  ·cases h
 ·cases h
end
section
variable {P : Program} {call : FuncId -> List V -> List Obj -> Option Out}
theorem bK (hc:W5 P call) (hm:P.follows .mixedOrders=true) {p:Prm} {id:Nat} {ops:Array Oper} {fr:List V} {H:List Obj} {rs} {Q:Exit->List V->List Obj->Prop} (h:PM P call p ops.toList fr H=some rs) (hk: ∀r∈rs,Q .normal r.1 r.2):AWP P (.region id ops true) fr H Q:=by
 unfold PM at h
 split at h
 ·grind [N8]
 ·exact Zq (IX _ (fr,H)) (N8 hc hm h hk)
end
abbrev COut := List (Exit×List V×List Obj)
def MV (f:List V->List Obj->Option COut):Nat->List V->List Obj->Option COut
 | 0,_,_=>none
 | n+1,fr,H=>match f fr H with
  | some rs=>Kg (fun r=>match r.1 with
   | .normal=>MV f n r.2.1 r.2.2
   | e=>some [(e,r.2.1,r.2.2)]) rs
  | none=>none
def yN (id:Nat) (r:Exit×List V×List Obj):Exit×List V×List Obj:=match r.1 with
 | .exit id'=>if id'=id then (.normal,r.2) else r
 | _=>r
def nrm (rs:List (List V×List Obj)):COut:=rs.map fun r=>(.normal,r.1,r.2)
section
variable (P : Program) (call : FuncId -> List V -> List Obj -> Option Out) (p : Prm)
def W2 : Code->List V->List Obj->Option COut
 | .skip,fr,H=>some [(.normal,fr,H)]
 | .region _ ops d,fr,H=>(if d=true then PM P call p ops.toList fr H else CS P call (ops.toList.map (·.dst)) ops.toList fr H).map nrm
 | .seq x y,fr,H=>match W2 x fr H with
  | some rs=>Kg (fun r=>match r.1 with
   | .normal=>W2 y r.2.1 r.2.2
   | e=>some [(e,r.2.1,r.2.2)]) rs
  | none=>none
 | .cond c x y,fr,H=>match ev fr c with
  | .p (.bool b)=>if b=true then W2 x fr H else W2 y fr H
  | _=>none
 | .block id c,fr,H=>match W2 c fr H with
  | some rs=>some (rs.map (yN id))
  | none=>none
 | .exit id,fr,H=>some [(.exit id,fr,H)]
 | .ret,fr,H=>some [(.ret,fr,H)]
 | .loop c,fr,H=>MV (fun fr H=>W2 c fr H) p.rounds fr H
 | _,_,_=>none
variable {P} {call} {p}
theorem DO {c:Code} {Q Q':Exit->Act->World->Prop} (hq: ∀e a w,Q e a w->Q' e a w): ∀ {n a w},Code.rounds P c Q n a w->Code.rounds P c Q' n a w
 | 0,_,_,h=>h
 | n+1,a,w,h=>wp_mono h fun e a w q=>by
  cases e with
  | normal=>exact DO hq q
  | _=>exact hq _ _ _ q
theorem RI {c:Code} {f:List V->List Obj->Option COut} (hb: ∀fr H rs,f fr H=some rs->AWP P c fr H fun e fr' H'=>(e,fr',H')∈rs): ∀ {n fr H rs},MV f n fr H=some rs-> ∀F ι a w,Rel F H ι w->Fr F H ι w fr a ->
  Code.rounds P c (fun e a' w'=> ∃fr' H' ι',(e,fr',H')∈rs/\Good F H ι w H' ι' w'/\Fr F H' ι' w' fr' a') n a w
 | 0,_,_,_,h=>by simp [MV] at h
 | n+1,fr,H,rs,h=>fun F ι a w hr hf=>by
  simp only [MV] at h
  split at h
  ·rename_i rs0 h0;refine wp_mono (hb fr H rs0 h0 F ι a w hr hf) ?_;rintro e a' w' ⟨fr',H',ι',hm,g,f'⟩;obtain ⟨z,h1,h2⟩:=Vq h _ hm
   cases e with
   | normal =>
    simp only at h1;exact DO (fun e a2 w2 ⟨fr2,H2,ι2,hm2,g2,f2⟩=>⟨fr2,H2,ι2,h2 _ hm2,g.trans g2,f2⟩) (RI hb h1 F ι' a' w' g.rel f')
   | _ =>
    simp only [X9] at h1;subst h1;exact ⟨fr',H',ι',h2 _ Zb,g,f'⟩
  ·cases h
theorem U4 (hc:W5 P call) (hm:P.follows .mixedOrders=true): ∀(c:Code) (fr:List V) (H:List Obj) (rs:COut),W2 P call p c fr H=some rs->AWP P c fr H fun e fr' H'=>(e,fr',H')∈rs
 | .skip,fr,H,rs,h=>by
  grind [W2,L9]
 | .region id ops d,fr,H,rs,h=>by
  simp only [W2,ZT] at h;obtain ⟨rs0,h0,rfl⟩:=h;have hk: ∀r∈rs0,(Exit.normal,r.1,r.2)∈nrm rs0:=fun r hr=>Xv.2 ⟨r,hr,rfl⟩
  grind [bK,yK,CT]
 | .seq x y,fr,H,rs,h=>by
  simp only [W2] at h
  split at h
  ·rename_i rs0 h0;refine Vs ((U4 hc hm x fr H rs0 h0).mono fun e fr' H' hm'=> ?_);obtain ⟨z,h1,h2⟩:=Vq h _ hm'
   cases e with
   | normal=>exact (U4 hc hm y fr' H' z h1).mono fun e fr H hq=>h2 _ hq
   | _ =>
    simp only [X9] at h1;subst h1;exact h2 _ Zb
  ·cases h
 | .cond c x y,fr,H,rs,h=>by
  simp only [W2] at h;refine L5 ?_;unfold V2
  split at h
  ·rename_i b hb;rw [hb];simp only
   split at h
   ·rename_i e;exact ⟨fun _=>U4 hc hm x fr H rs h,fun e2=>by rw [e] at e2;cases e2⟩
   ·rename_i e;exact ⟨fun e2=>absurd e2 e,fun _=>U4 hc hm y fr H rs h⟩
  ·cases h
 | .block id c,fr,H,rs,h=>by
  simp only [W2] at h
  split at h
  ·rename_i rs0 h0;simp only [X9] at h;subst h;refine G0 ((U4 hc hm c fr H rs0 h0).mono fun e fr' H' hm'=> ?_);have:=List.mem_map_of_mem (f:=yN id) hm';simp only [yN] at this
   cases e with
   | exit id' =>
    simp only [UJ];simp only at this
    split
    ·rename_i e;rw [if_pos e] at this;exact this
    ·rename_i e;rw [if_neg e] at this;exact this
   | _=>exact this
  ·cases h
 | .exit id,fr,H,rs,h=>by
  grind [W2,L6]
 | .ret,fr,H,rs,h=>by
  grind [W2,P6]
 | .loop c,fr,H,rs,h=>by
  simp only [W2] at h;exact fun F ι a w hr hf=>wp_loop_rounds _ (RI (fun fr H rs h=>U4 hc hm c fr H rs h) h F ι a w hr hf)
 | .rangeFunc _ _ _ _,_,_,_,h=>by simp [W2] at h
 | .scope _,_,_,_,h=>by simp [W2] at h
 | .label _,_,_,_,h=>by simp [W2] at h
 | .goto _,_,_,_,h=>by simp [W2] at h
 | .refuse _,_,_,_,h=>by simp [W2] at h
end
def fzR (n0:Nat) (s:List V×List Obj):List V×List Obj:=vX ((List.range (s.2.length-n0)).map (n0+ ·)) s
theorem zX {k n0:Nat} (s:List V×List Obj):Weak k s.1 s.2 (fzR n0 s).1 (fzR n0 s).2:=IX _ s
theorem AWP.weakQ {P c fr H} {Q':Exit->List V->List Obj->Prop} (h:AWP P c fr H fun e fr' H'=> ∃fr'' H'',Weak H.length fr' H' fr'' H''/\Q' e fr'' H''):AWP P c fr H Q':=fun F ι a w hr hf =>
 wp_mono (h F ι a w hr hf) fun e a' w' ⟨fr',H',ι',⟨fr2,H2,hw,q⟩,g,f⟩=>by
  obtain ⟨ι2,r2,f2,g2⟩:=hw F ι' a' w' g.rel f
  grind
def Zn2 (n:Nat):Obj->Bool
 | .cells cs=>Z9 n cs
 | .bld _ _ q _=>decide (q<n)
 | _=>true
def zL (n:Nat) (x:V) (H:List Obj):Bool:=refB n x&&(decide (n<=H.length)&&(H.take n).all (Zn2 n))
theorem pO {n:Nat} {x:V} {H:List Obj} (h:zL n x H=true):Weak n [x] H [x] (H.take n):=by
 simp only [zL,Zy,Zp,Zt] at h;obtain ⟨h1,h2,h3⟩:=h
 have e:(H.take n).length=n:=by simp;omega
 refine Weak.of Za ⟨.inr (.inl ⟨rfl,by grind⟩),trivial⟩ ?_ (by simp;omega);rw [e];have:=Gn (H:=H) (n:=n) (H.take n) (H.drop n) (fun j cs hj i c hi=>XC (h3 _ (Xz hj)) i c hi) fun j T E q bs hj=>Cf (h3 _ (Xz hj))
 simp_all
def Znx : Exit->Bool
 | .normal=>true
 | .ret=>true
 | _=>false
def Zh8 (P:Program) (keep:Bool) (n0:Nat) (res:List ResultVar) (r:Exit×List V×List Obj):Option Out :=
 if Znx r.1=true then
  match (if keep=true then none else (let s:=fzR n0 r.2
   match YI P s.1 s.2 res with
   | some xs=>if zL n0 (VB xs) s.2=true then some (VB xs,s.2.take n0) else none
   | none=>none)) with
  | some z=>some [z]
  | none=>match YI P r.2.1 r.2.2 res with
   | some xs=>some [(VB xs,r.2.2)]
   | none=>none
 else none
def Pc (a b:V×List Obj):Bool:=V.eqb a.1 b.1&&match EU a.2 b.2 with | some []=>true | _=>false
theorem TV {a b:V×List Obj} (h:Pc a b=true):a=b:=by
 simp only [Pc,Zy] at h;obtain ⟨h1,h2⟩:=h
 split at h2
 ·rename_i hb;have:=Jk hb
  grind [V.eqb_ok]
 ·cases h2
def fA : Out->Out
 | []=> []
 | a::l=>if l.all (Pc a)=true then [a] else a::l
theorem TB {l:Out} {a:V×List Obj} (h:a∈l):a∈fA l:=by
 cases l with
 | nil=>exact h
 | cons b l =>
  rw [fA]
  split
  ·rename_i X8;rcases X2.1 h with rfl | h
   ·simp
   grind [TV]
  ·exact h
def Zjt (n0:Nat) (a b:V×List Obj):Bool:=V.eqb b.1 (.sl a.2.length 0 0 0)&&(decide (n0<=a.2.length)&&match EU a.2 b.2 with
 | some [.elems _ []]=>true
 | _=>false)
def mrg (n0:Nat) (l:Out) (a:V×List Obj):V×List Obj:=match a.1 with
 | .p (.list true [])=>match l.find? (Zjt n0 a) with
  | some b=>b
  | none=>a
 | _=>a
theorem Zc7 {n0:Nat} {l:Out} (a:V×List Obj):Weak n0 [a.1] a.2 [(mrg n0 l a).1] (mrg n0 l a).2:=by
 unfold mrg
 split
 ·rename_i ha
  split
  ·rename_i b hb;have h:=Uv hb;simp only [Zjt,Zy,Zp] at h;obtain ⟨h1,h2,h3⟩:=h
   split at h3
   ·rename_i S hbe;have e:=Jk hbe;have e1:=V.eqb_ok _ _ h1;rw [e,e1,ha];exact Weak.nil 0 S (by rfl) h2
   ·cases h3
  simp [Weak.refl]
 simp [Weak.refl]
def knB (g:FuncId) (args:List V) (k:FuncId×List V×V):Bool:=k.1==g&&V.eqbs k.2.1 args
def KnL (P:Program) (l:List (FuncId×List V×V)):Prop:= ∀k∈l,ACalls P k.1 k.2.1 [] (fun x H'=>x=k.2.2/\H'= [])/\Z9 0 k.2.1=true/\ ∀n,shV n k.2.2=k.2.2
theorem KnL.cons {P:Program} {g:FuncId} {a:List V} {r:V} {l:List (FuncId×List V×V)} (h:ACalls P g a [] fun y H'=>y=r/\H'= []) (h1:Z9 0 a=true) (h2: ∀n,shV n r=r) (t:KnL P l):KnL P ((g,a,r)::l):=fun k hk=>by
 rcases X2.1 hk with rfl | hk
 ·grind
 ·exact t k hk
def bZ (P:Program) (p:Prm):Prop:=KnL P p.kn
def H9 (P:Program) (p:Prm):Nat->FuncId->List V->List Obj->Option Out
 | 0,_,_,_=>none
 | n+1,g,args,H=>if (p.fa.contains g&& !(FV args).isEmpty)=true then none else match p.kn.find? (knB g args) with
  | some k=>some [(k.2.2,H)]
  | none=>match P.funcs[g]? with
   | some fn => if (fn.name == "runtime.NumGoroutine") = true then none else match fn.body with
    | some c=>match W2 P (H9 P p n) p c (args++List.replicate (fn.ntmps-args.length) .junk) H with
     | some rs=>(Kg (Zh8 P (p.kp.contains g) H.length fn.results.toList) rs).map fun l=>fA (l.map (mrg H.length l))
     | none=>none
    | none=>none
   | none=>none
theorem iF {P : Program} {g : FuncId} {fn : Func} {c : Code} (hf : P.funcs[g]? = some fn) (hn : (fn.name == "runtime.NumGoroutine") = false) (hb : fn.body = some c) : Zj P g := fun args w => by
 unfold callFunc;simp [hf,hb]
 grind
theorem Gp {P:Program} {p:Prm} (hm:P.follows .mixedOrders=true) (hkn:bZ P p): ∀n,W5 P (H9 P p n)
 | 0=>fun g a H rs h=>by simp [H9] at h
 | n+1=>fun g args H rs h=>by
  simp only [H9] at h
  split at h
  ·cases h
  split at h
  ·rename_i k hk;simp only [X9] at h;subst h;obtain ⟨h1,h2,h3⟩:=hkn k (VO hk);have hb:=Uv hk;simp only [knB,Zy,beq_iff_eq] at hb;rw [<- hb.1,<- V.eqbs_ok _ _ hb.2];refine (h1.behind h2 H).mono ?_
   grind
  split at h
  ·rename_i fn hf
   split at h
   ·cases h
   ·rename_i hn
    split at h
    ·rename_i c hb
     split at h
     ·rename_i rs0 h0;simp only [ZT] at h;obtain ⟨rs1,h1,rfl⟩:=h;have hk:=U4 (Gp (p:=p) hm hkn n) hm c _ H rs0 h0;refine ACalls.weak (ACalls.mono (Q:=fun x H'=>(x,H')∈rs1) ?_ fun x H' hx=>⟨_,_,Zc7 (n0:=H.length) (l:=rs1) (x,H'),TB (List.mem_map_of_mem hx)⟩);refine ACalls.weak (Ye hf hb (iF hf (by grind) hb) (AWP.weakQ (hk.mono fun e fr' H' hmem=> ?_)));obtain ⟨z,h2,h3⟩:=Vq h1 _ hmem;simp only [Zh8] at h2
      split at h2
      ·rename_i he
       have hret: ∀ {fr H} {xs} {Q:V->List Obj->Prop},YI P fr H fn.results.toList=some xs->Q (VB xs) H->Kb P fn.results.toList Q e fr H:=fun {fr H xs Q} hx hq=>by
        cases e with
        | normal=>grind [Kb]
        | ret=>grind [Kb]
        | _=>cases he
       split at h2
       ·rename_i z1 hz;simp only [X9] at h2;subst h2
        split at hz
        ·cases hz
        ·split at hz
         ·rename_i xs hx
          split at hz
          ·rename_i hcut;simp only [X9] at hz;subst hz;refine ⟨_,_,zX (n0:=H.length) (fr',H'),hret hx ⟨_,_,pO hcut,?_⟩⟩
           grind
          ·cases hz
         ·cases hz
       ·split at h2
        ·rename_i xs hx;simp only [X9] at h2;subst h2;exact ⟨fr',H',Weak.refl _ _ _,hret hx ⟨_,_,Weak.refl _ _ _,h3 _ Zb⟩⟩
        ·cases h2
      ·cases h2
     ·cases h
    ·cases h
  ·cases h
theorem lS {P:Program} (p:Prm) (n:Nat) {g:FuncId} (hm:P.follows .mixedOrders=true) (h:H9 P p n g [] []=some [(.p (.bool true),[])]) (hk:bZ P p:=by simp [bZ,KnL]):ACalls P g [] [] fun y H'=>y= .p (.bool true)/\H'= [] :=
 (Gp hm hk n g [] [] _ h).mono fun x H' hm=>by
  grind
theorem YJ {P:Program} (p:Prm) (n:Nat) {g:FuncId} {args:List V} {x:V} {H':List AM.Obj} (hm:P.follows .mixedOrders=true) (h:H9 P p n g args []=some [(x,H')]) (hk:bZ P p:=by simp [bZ,KnL]):ACalls P g args [] fun y H=>y=x/\H=H' :=
 (Gp hm hk n g args [] _ h).mono fun y H hq=>by
  grind
end Go.AM
namespace Go.Proofs.YtiigdaohjanidaaGreatDoor.K
open Go Go.AM Go.Proofs
set_option maxRecDepth 60000
set_option maxHeartbeats 8000000
theorem Ys : gU 1= .lp (.agg (tabB.map (.int .u8))) 0:=rfl
theorem W8 {s:Option (Option Nat×Nat)} {H:List AM.Obj} {x:V} {E k:Int} {K:V->Prop} (h:E=k) (hk:DX (Us s H x (.p (.int .u64 k))) K):DX (Us s H x (.p (.int .u64 E))) K:=h ▸ hk
def A4 (n:Nat):Int:=if n%2=1 then 0 else if n%4=2 then 1 else if n%8=4 then 2 else 3
theorem UZ {P Q:Prop} (h:Q) (e:Q->P:=by intro h;simp (disch:=omega) only [tabB,go_sem,seval];exact h):P:=e h
theorem ZdJ (n:Nat) (h0:0<n) (h:n<16):PC 210 [.p (.int .u64 n)] (.int .i64 (A4 n)):=by
 have hc:n=1\/n=2\/n=3\/n=4\/n=5\/n=6\/n=7\/n=8\/n=9\/n=10\/n=11\/n=12\/n=13\/n=14\/n=15:=Za
 rcases hc with rfl | rfl | rfl | rfl | rfl | rfl | rfl | rfl | rfl | rfl | rfl | rfl | rfl | rfl | rfl
 ·refine Zd Tryz.func210 rfl W9 ?_;simp (disch:=omega) only [Tryz.f210,Ys,go_sem,seval];refine W8 (k:=0) (by decide+kernel) (UZ ?_)
  try rfl
 ·refine Zd Tryz.func210 rfl W9 ?_;simp (disch:=omega) only [Tryz.f210,Ys,go_sem,seval];refine W8 (k:=1) (by decide+kernel) (UZ ?_)
  try rfl
 ·refine Zd Tryz.func210 rfl W9 ?_;simp (disch:=omega) only [Tryz.f210,Ys,go_sem,seval];refine W8 (k:=0) (by decide+kernel) (UZ ?_)
  try rfl
 ·refine Zd Tryz.func210 rfl W9 ?_;simp (disch:=omega) only [Tryz.f210,Ys,go_sem,seval];refine W8 (k:=3) (by decide+kernel) (UZ ?_)
  try rfl
 ·refine Zd Tryz.func210 rfl W9 ?_;simp (disch:=omega) only [Tryz.f210,Ys,go_sem,seval];refine W8 (k:=0) (by decide+kernel) (UZ ?_)
  try rfl
 ·refine Zd Tryz.func210 rfl W9 ?_;simp (disch:=omega) only [Tryz.f210,Ys,go_sem,seval];refine W8 (k:=1) (by decide+kernel) (UZ ?_)
  try rfl
 ·refine Zd Tryz.func210 rfl W9 ?_;simp (disch:=omega) only [Tryz.f210,Ys,go_sem,seval];refine W8 (k:=0) (by decide+kernel) (UZ ?_)
  try rfl
 ·refine Zd Tryz.func210 rfl W9 ?_;simp (disch:=omega) only [Tryz.f210,Ys,go_sem,seval];refine W8 (k:=7) (by decide+kernel) (UZ ?_)
  try rfl
 ·refine Zd Tryz.func210 rfl W9 ?_;simp (disch:=omega) only [Tryz.f210,Ys,go_sem,seval];refine W8 (k:=0) (by decide+kernel) (UZ ?_)
  try rfl
 ·refine Zd Tryz.func210 rfl W9 ?_;simp (disch:=omega) only [Tryz.f210,Ys,go_sem,seval];refine W8 (k:=1) (by decide+kernel) (UZ ?_)
  try rfl
 ·refine Zd Tryz.func210 rfl W9 ?_;simp (disch:=omega) only [Tryz.f210,Ys,go_sem,seval];refine W8 (k:=0) (by decide+kernel) (UZ ?_)
  try rfl
 ·refine Zd Tryz.func210 rfl W9 ?_;simp (disch:=omega) only [Tryz.f210,Ys,go_sem,seval];refine W8 (k:=3) (by decide+kernel) (UZ ?_)
  try rfl
 ·refine Zd Tryz.func210 rfl W9 ?_;simp (disch:=omega) only [Tryz.f210,Ys,go_sem,seval];refine W8 (k:=0) (by decide+kernel) (UZ ?_)
  try rfl
 ·refine Zd Tryz.func210 rfl W9 ?_;simp (disch:=omega) only [Tryz.f210,Ys,go_sem,seval];refine W8 (k:=1) (by decide+kernel) (UZ ?_)
  try rfl
 ·refine Zd Tryz.func210 rfl W9 ?_;simp (disch:=omega) only [Tryz.f210,Ys,go_sem,seval];refine W8 (k:=0) (by decide+kernel) (UZ ?_)
  try rfl
end Go.Proofs.YtiigdaohjanidaaGreatDoor.K
