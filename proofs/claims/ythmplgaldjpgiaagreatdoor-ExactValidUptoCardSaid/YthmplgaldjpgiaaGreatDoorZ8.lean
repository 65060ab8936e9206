/- Declarations that the closing texts need, part 8: joined by tools/slim.py. -/
import Derived.Test.YthmplgaldjpgiaaGreatDoorZ7
import Derived.Lib.LazyBuf
set_option linter.unusedVariables false
set_option linter.unusedSimpArgs false
namespace Go.AM
open Go.RowKit
theorem ZeR {P:Program} {id:Nat} {d1 d2:Nat} {x:Operand} {t u e ty1 ty2:TypeId} {p1 p2:String} {af1 af2:Array Edge} {y:Code} {fr:List V} {H:List Obj} {Q:Exit->List V->List Obj->Prop} {cl:Bool} {xs:List PV}
  (hu:P.underlying t=some (.slice e)) (hx:ev fr x= .p (.list cl xs)) (hd:d1<fr.length)
  (k: ∀b,(b=true->xs= [])->AWP P y (pt (pt fr d1 (.p (.list cl xs))) d2 (.p (.bool b))) H Q) :
  AWP P (.seq ((Code.region id (List.toArray [⟨some d1,.move x,ty1,p1,af1,none⟩,⟨some d2,.binOp .eql t (.tmp d1) (.const (.slice none 0 0)) u,ty2,p2,af2,none⟩]) false)) y) fr H Q:=by
 refine XC fun F ι a w hr hf=>wp_region_list ?_;have hv:=hf.ev x;rw [hx] at hv;have f1:=hf.put (some d1) hv
 have hsz:d1<a.tmps.size:=by have:=hf.1;omega
 have hev:(a.put (some d1) (a.eval x)).eval (.tmp d1)=a.eval x:=by
  have:=f1.get d1;simp [Act.eval,Act.put,hsz]
 have hw1:Region.wanted (⟨some d1,.move x,ty1,p1,af1,none⟩:Oper) (yielded (List.toArray [⟨some d1,.move x,ty1,p1,af1,none⟩,⟨some d2,.binOp .eql t (.tmp d1) (.const (.slice none 0 0)) u,ty2,p2,af2,none⟩]) a.tmps)=true:=rfl;simp only [wpList];rw [if_pos hw1];refine .inl ?_;unfold Oper.wp
 have e1:(execOp a.eval ⟨some d1,.move x,ty1,p1,af1,none⟩).run P w= .ok (.value (a.eval x)) w:=by simp [execOp]
 rw [e1,Oper.upon_value];have hw2: ∀q,Region.wanted (⟨some d2,.binOp .eql t (.tmp d1) (.const (.slice none 0 0)) u,ty2,p2,af2,none⟩:Oper) q=true:=fun _=>rfl;rw [if_pos (hw2 _)];refine .inl ?_
 show Oper.upon P _ (a.put (some d1) (a.eval x)) _ _ ((execOp (a.put (some d1) (a.eval x)).eval _).run P w)
 cases hv with | p _ _ hv =>
 obtain ⟨ad,l,c,ha,hnil⟩: ∃ad l c,a.eval x= .slice ad l c/\(ad=none->xs= []):=by
  generalize a.eval x=v at hv
  cases hv with
  | nils=>exact ⟨none,0,0,rfl,fun _=>rfl⟩
  | emp _ ad cap _ _ _=>exact ⟨ad,0,cap,rfl,fun _=>rfl⟩
  | list _ _ b off cap S u=>exact ⟨_,_,_,rfl,fun h=>by cases h⟩
 have e2:(execOp (a.put (some d1) (a.eval x)).eval ⟨some d2,.binOp .eql t (.tmp d1) (.const (.slice none 0 0)) u,ty2,p2,af2,none⟩).run P w= .ok (.value (.bool ad.isNone)) w:=by
  have e3:(a.put (some d1) (a.eval x)).eval (.const (.slice none 0 0))= .slice none 0 0:=rfl;have e4:=hev.trans ha;generalize (a.put (some d1) (a.eval x)).eval=E at e3 e4;simp only [execOp,e3,e4,eqGuard_at_slice,Sem.run_bind,Sem.run_pure,Result.andThen_ok,Go.run_eql_slice_nil w t e ad l c hu]
 rw [e2,Oper.upon_value];have f2:=f1.put (some d2) (x:= .p (.bool ad.isNone)) (v:= .bool ad.isNone) (.p _ _ (.bool _));exact ⟨_,H,ι,k ad.isNone (fun h=>hnil (by cases ad with | none=>rfl | some q=>simp at h)),Good.refl hr,f2⟩
@[go_sem ↓] theorem Zqo {P ds o l m fr H K} :YB P ds (List.append (o::l) m) fr H K=YB P ds (o::List.append l m) fr H K:=rfl
@[go_sem ↓] theorem ZsO {P ds m fr H K} :YB P ds (List.append [] m) fr H K=YB P ds m fr H K:=rfl
@[go_sem] theorem ZrY {α:Type} {x:α} {l m} :List.append (x::l) m=x::List.append l m:=rfl
@[go_sem] theorem Zxc {α:Type} {m:List α} :List.append [] m=m:=rfl
theorem Xk {P:Program} {ops:Array Oper} {Q:Exit->Act->World->Prop} {r:List Oper} : ∀(l:List Oper) (fr:List V) (H:List Obj) (K:List V->List Obj->Prop),YB P (ops.toList.map (·.dst)) l fr H K ->
  ∀F ι a w,Rel F H ι w->Fr F H ι w fr a ->
   (∀fr' H' ι' a' w',K fr' H'->Good F H ι w H' ι' w'->Fr F H' ι' w' fr' a'->wpList P ops Q r a' w')->wpList P ops Q (l++r) a w
 | [],fr,H,K,h,F,ι,a,w,hr,hf,hq=>hq fr H ι a w h (Good.refl hr) hf
 | o::l,fr,H,K,h,F,ι,a,w,hr,hf,hq=>by
  have step: ∀ {fr:List V} {a:Act},Fr F H ι w fr a->Zt P o fr H (fun x H'=>YB P (ops.toList.map (·.dst)) l (ptO fr o.dst x) H' K)->o.wp P a w (wpList P ops Q (l++r)) Q:=fun hf h =>
   WK h hr hf fun x H' ι' v w' hk g q=>Xk l _ H' K hk F ι' _ w' g.rel ((g.fr hf).put o.dst q)
    fun fr' H2 ι2 a' w2 k2 g2 f2=>hq fr' H2 ι2 a' w2 k2 (g.trans g2) f2
  simp only [YB] at h;simp only [List.cons_append,wpList]
  split at h
  ·rename_i hg
   have hw:Region.wanted o (yielded ops a.tmps)=true:=by simp [Region.wanted,hg]
   rw [if_pos hw];exact .inl (step hf h)
  ·rename_i j b hg;unfold Z3 at h
   split at h
   rotate_left
   ·rename_i hc;have hy:=XF hf hc
    have hw: ¬(Region.wanted o (yielded ops a.tmps)=true):=by simp [Region.wanted,hg,hy]
    rw [if_neg hw];exact Xk l _ H K h F ι _ w hr (hf.put o.dst X8) hq
   ·exact h.elim
   rename_i c hc;have hy:=Yi hf hc
   by_cases hcb:c=b
   ·have hw:Region.wanted o (yielded ops a.tmps)=true:=by simp [Region.wanted,hg,hy,hcb]
    rw [if_pos hw];exact .inl (step hf (h.1 hcb))
   ·have hw: ¬(Region.wanted o (yielded ops a.tmps)=true):=by simp [Region.wanted,hg,hy,hcb]
    rw [if_neg hw];exact Xk l _ H K (h.2 hcb) F ι _ w hr (hf.put o.dst X8) hq
theorem RV.refB {F H ι w x v} (h:RV F H ι w x v):refB H.length x=true:=by
 have lt: ∀ {o:Nat} {ob:Obj},H[o]? =some ob->o<H.length:=fun h=>(List.getElem?_eq_some_iff.1 h).1
 have all: ∀(l:List V),(∀(j:Nat) (c:V),l[j]? =some c->AM.refB H.length c=true)->ZR H.length l=true:=fun l=>by
  induction l with
  | nil=>intro _;rfl
  | cons x l ih=>intro h;simp only [ZR,Bool.and_eq_true];exact ⟨h 0 x rfl,ih fun j c hj=>h (j+1) c (by simpa using hj)⟩
 induction h with
 | p=>rfl
 | agg cs a hs _ ih=>exact all cs ih
 | fn f cs ds a e hs ht _ _ ih1 ih2=>simp only [AM.refB,Bool.and_eq_true];exact ⟨all cs ih1,all ds ih2⟩
 | tup cs a hs _ ih=>exact all cs ih
 | ptr o off b cs h hH=>simp [AM.refB,lt hH]
 | ep o i j tot b S xs h hH ht=>simp [AM.refB,lt hH]
 | slNil o S a h hH=>simp [AM.refB,lt hH]
 | sl o off len tot b S cap t xs c h hH=>simp [AM.refB,lt hH]
 | lp=>rfl
 | mp o b es h hH=>simp [AM.refB,lt hH]
 | mpD o v h=>simp [AM.refB,lt h]
 | bp o b T E r bs h hH=>simp [AM.refB,lt hH]
 | bpD o v h=>simp [AM.refB,lt h]
 | junk=>rfl
 | ptrD o off v h=>simp [AM.refB,lt h]
 | epD o i j tot v h=>simp [AM.refB,lt h]
 | slD o off len tot v h=>simp [AM.refB,lt h]
 | epS o i j tot v S xs h hne=>simp [AM.refB,lt h]
 | slS o off len tot v S xs h hne=>simp [AM.refB,lt h]
 | slC o tot b cap cs h hH hl hm=>simp [AM.refB,lt hH]
theorem Rel.refH {F H ι w} (h:Rel F H ι w):refH H.length H=true:=by
 rw [AM.refH,List.all_eq_true];intro ob hm;obtain ⟨o,ho⟩:=List.mem_iff_getElem?.1 hm
 cases ob with
 | cells cs =>
  obtain ⟨b,c,t,_,_,_,h4⟩:=h.cel o cs ho
  have: ∀(l:List V),(∀x∈l,refB H.length x=true)->ZR H.length l=true:=fun l=>by
   induction l with
   | nil=>intro _;rfl
   | cons x l ih=>intro h;simp only [ZR,Bool.and_eq_true];exact ⟨h x (by simp),ih fun y hy=>h y (by simp [hy])⟩
  exact this cs fun x hx=>by
   obtain ⟨j,hj⟩:=List.mem_iff_getElem?.1 hx;exact (h4 j x hj).refB
 | elems=>rfl
 | map=>rfl
 | bld T E r bs=>simpa using (List.getElem?_eq_some_iff.1 (h.bldr o T E r bs ho).2.1).1
 | dead=>rfl
def W6 (o:Oper):Oper:= { o with op:= .move (.tmp 1000000) }
def JT : Nat->List Oper->List Oper
 | _,[]=> []
 | 0,o::l=>W6 o::l
 | m+1,o::l=>o::JT m l
theorem VY : ∀(m:Nat) (l:List Oper) (i:Nat),(JT m l)[i]? =if i=m then (l[i]?).map W6 else l[i]?
 | m,[],i=>by cases m<;>simp [JT]
 | 0,o::l,0=>by simp [JT]
 | 0,o::l,i+1=>by simp [JT]
 | m+1,o::l,0=>by simp [JT]
 | m+1,o::l,i+1=>by simp [JT,VY m l i]
theorem ZdZ : ∀(m:Nat) (l:List Oper),(JT m l).map (·.dst)=l.map (·.dst)
 | m,[]=>by cases m<;>simp [JT]
 | 0,o::l=>by simp [JT,W6]
 | m+1,o::l=>by simp [JT,ZdZ m l]
theorem ZdL : ∀(m:Nat) (l:List Oper),(JT m l).length=l.length
 | m,[]=>by cases m<;>simp [JT]
 | 0,o::l=>by simp [JT]
 | m+1,o::l=>by simp [JT,ZdL m l]
theorem ZdM : ∀ {fr:List V} {t:Nat},fr.length<=t->gt fr t= .junk
 | [],_,_=>rfl
 | _::_,0,h=>by simp at h
 | _::l,t+1,h=>by simp only [gt];exact ZdM (by simpa using h)
@[go_sem] theorem Zrf {o:Oper} {l} :JT 0 (o::l)=W6 o::l:=rfl
@[go_sem] theorem Zud {o:Oper} {l m} :JT (m+1) (o::l)=o::JT m l:=rfl
@[go_sem] theorem Zwb {d op t ps af g} :W6 ⟨d,op,t,ps,af,g⟩=⟨d,.move (.tmp 1000000),t,ps,af,g⟩:=rfl
theorem ZoJ {fr:List V} {d:Option Nat} {x:V} :(ptO fr d x).length=fr.length:=by cases d<;>simp [ptO,W4]
theorem Zn0 {fr:List V} {d:Option Nat} {v x:V} {t:Nat} (h:(ptO fr d v)[t]? =some x):(d=some t/\x=v/\t<fr.length)\/(d≠some t/\fr[t]? =some x):=by
 cases d with
 | none=>exact .inr ⟨by simp,h⟩
 | some d =>
  simp only [ptO,W4] at h;rw [List.getElem?_set] at h
  split at h
  ·rename_i e;subst e
   split at h
   ·rename_i hl;simp at h;exact .inl ⟨rfl,h.symm,hl⟩
   ·cases h
  ·rename_i e;exact .inr ⟨by simpa using e,h⟩
theorem W0 {ds:List (Option Nat)} {vals:List V} {n:Nat} (hap:VL ds n=true) (hn:n<=ds.length) (hv:vals.length=n) {R:List Nat} {ls:List Nat} (hls: ∀j∈ls,j<n) {fr:List V} (hR: ∀t∈R,∀j,j<n->ds[j]? =some (some t)->j∈ls) :
  UE R (Zx ds vals ls (Zw (ds.take n) fr)) (Zx ds vals (List.range n) (Zw (ds.take n) fr)):=fun t ht=>by
 apply Zbi
 by_cases hex: ∃j,j<n/\ds[j]? =some (some t)
 ·obtain ⟨j,hj,hdj⟩:=hex;obtain ⟨x,hx⟩: ∃x,vals[j]? =some x:=⟨vals[j]'(by omega),by simp [hv,hj]⟩
  by_cases hlt:t<fr.length
  ·rw [WA hap hdj hx hj ls _ hls (hR t ht j hj hdj) (by rw [ZH];exact hlt),WA hap hdj hx hj _ _ (fun k hk=>by simpa using hk) (by simpa using hj) (by rw [ZH];exact hlt)]
  ·rw [List.getElem?_eq_none (by rw [ZF,ZH];omega),List.getElem?_eq_none (by rw [ZF,ZH];omega)]
 ·have hno: ∀j,j<n->ds[j]? ≠some (some t):=fun j hj e=>hex ⟨j,hj,e⟩;rw [YS ls _ (fun j hj=>hno j (hls j hj)),YS _ _ (fun j hj=>hno j (by simpa using hj))]
def VD : List Nat->List Oper->List Oper
 | [],l=>l
 | m::ms,l=>VD ms (JT m l)
theorem Qj : ∀(ms:List Nat) (l:List Oper),(VD ms l).map (·.dst)=l.map (·.dst)
 | [],_=>rfl
 | m::ms,l=>by rw [VD,Qj ms,ZdZ]
theorem Qq : ∀(ms:List Nat) (l:List Oper),(VD ms l).length=l.length
 | [],_=>rfl
 | m::ms,l=>by rw [VD,Qq ms,ZdL]
theorem VU : ∀(ms:List Nat) (l:List Oper) (i:Nat),i ∉ ms->(VD ms l)[i]? =l[i]?
 | [],_,_,_=>rfl
 | m::ms,l,i,h=>by
  simp at h;rw [VD,VU ms _ i h.2,VY,if_neg h.1]
theorem Jy : ∀(ms:List Nat) (l:List Oper) (i:Nat) (o:Oper),i∈ms->l[i]? =some o->(VD ms l)[i]? =some (W6 o)
 | [],_,_,_,h,_=>by cases h
 | m::ms,l,i,o,h,ho=>by
  rw [VD]
  by_cases hi:i∈ms
  ·by_cases e:i=m
   ·subst e;have:=Jy ms (JT i l) i (W6 o) hi (by rw [VY,if_pos rfl,ho];rfl);rw [this];rfl
   ·exact Jy ms (JT m l) i o hi (by rw [VY,if_neg e];exact ho)
  ·have e:i=m:=by
    rcases List.mem_cons.1 h with e | e
    ·exact e
    ·exact absurd e hi
   subst e;rw [VU ms _ _ hi,VY,if_pos rfl,ho];rfl
def ZJ : List Oper->Nat->Oper
 | [],_=>default
 | o::_,0=>o
 | _::l,n+1=>ZJ l n
theorem Vy : ∀(l:List Oper) (n:Nat),ZJ l n=l.getD n default
 | [],n=>by simp [ZJ]
 | o::l,0=>rfl
 | o::l,n+1=>by simp [ZJ,Vy l n]
@[go_sem] theorem Zqi {o:Oper} {l} :ZJ (o::l) 0=o:=rfl
@[go_sem] theorem ZuN {o:Oper} {l n} :ZJ (o::l) (n+1)=ZJ l n:=rfl
@[go_sem] theorem ZvW {l:List Oper} :VD [] l=l:=rfl
@[go_sem] theorem Zsl {m ms} {l:List Oper} :VD (m::ms) l=VD ms (JT m l):=rfl
theorem Q9 {P:Program} {H:List Obj} {f azs} {a b:PV} {B:V->Prop} {t} (h:ACalls P f azs [] fun x H'=>x= .tup [.p a,.p b]/\H'= []) (k:B (.tup [.p a,.p b])) (ha:ZR 0 azs=true:=by rfl) :
  exq (fun y=>ACalls P f azs H (Zv (Zv (fun x H'=>x=y/\H'=H) ⟨⟩) ⟨⟩)) (Zv B t) :=
 ⟨.tup [.p a,.p b],(h.behind ha H).mono fun x H' hq=>by
  obtain ⟨y,H1,⟨rfl,rfl⟩,rfl,rfl⟩:=hq
  simp [shV,shVs,Zv],k⟩
def ptl (l:List Oper):List (Nat×V)->List V->List V
 | [],fr=>fr
 | (m,y)::dn,fr=>ptO (ptl l dn fr) (ZJ l m).dst y
theorem Vm (l:List Oper): ∀(dn:List (Nat×V)) (fr:List V),(ptl l dn fr).length=fr.length
 | [],_=>rfl
 | (m,y)::dn,fr=>by rw [ptl,ZoJ,Vm l dn fr]
theorem Zan (l:List Oper) {x:V} {t:Nat} : ∀(dn:List (Nat×V)) (fr:List V),(ptl l dn fr)[t]? =some x->(∃p,p∈dn/\(ZJ l p.1).dst=some t/\x=p.2/\t<fr.length)\/fr[t]? =some x
 | [],_,h=> .inr h
 | (m,y)::dn,fr,h=>by
  rcases Zn0 h with ⟨h1,h2,h3⟩ | ⟨_,h2⟩
  ·exact .inl ⟨(m,y),by simp,h1,h2,by rw [Vm] at h3;exact h3⟩
  ·rcases Zan l dn fr h2 with ⟨p,h3,h4⟩ | h3
   ·exact .inl ⟨p,by simp [h3],h4⟩
   ·exact .inr h3
theorem VZ (l:List Oper) {R:List Nat} {f1 f2:List V} (hl:f1.length=f2.length) (h:UE R f1 f2): ∀dn,UE R (ptl l dn f1) (ptl l dn f2)
 | []=>h
 | (m,y)::dn=>fun t ht=>by
  have ih:=VZ l hl h dn t ht
  have hl2:(ptl l dn f1).length=(ptl l dn f2).length:=by rw [Vm,Vm,hl]
  simp only [ptl]
  cases (ZJ l m).dst with
  | none=>exact ih
  | some d =>
   simp only [ptO,W4,Zh6] at ih ⊢;rw [List.getElem?_set,List.getElem?_set]
   split
   ·rw [hl2]
   ·exact ih
def Yr (l:List Oper) (rem:List Nat):List Nat:=rem.filter fun m=>rem.all fun m'=> !(Zs m (ZJ l m)).contains m'
def U9 (P:Program) (H:List Obj) (l:List Oper):Nat->List Nat->List V->List Obj->(List V->List Obj->Prop)->Prop
 | 0,_,fr,L,K=>K fr L
 | n+1,rem,fr,L,K=> ∀m∈Yr l rem,∃y L',Zt P (ZJ l m) fr (H++L) (fun x H'=>x=y/\H'=H++L')/\U9 P H l n (rem.erase m) (ptO fr (ZJ l m).dst y) L' K
def ZCU (P:Program) (F:Nat->Prop) (H:List Obj) (l:List Oper) (ms:List Nat) (bs:List V) (K:List V->List Obj->Prop) (ds:List (Option Nat)) (fr vals:List V) (n:Nat) (ι0:List (Option Nat)) (w0:World) (listed:Array Bool) (a:Act) (w:World):Prop :=
 ∃(rem:List Nat) (dn:List (Nat×V)) (L:List Obj),rem.Nodup/\(∀m∈rem,m∈ms)/\(∀m∈ms,listed.getD m false=decide (m ∉ rem))/\(∀p∈dn,p.1∈ms/\p.1 ∉ rem)/\U9 P H l rem.length rem (ptl l dn bs) L K /\
  ∃ι ιL,ι.length=H.length/\Mid (Own F ιL) H ds fr vals n listed ι a w/\Good F H ι0 w0 (H++L) (ι++ιL) w /\
   ∀p∈dn,∀d,(ZJ l p.1).dst=some d->d<fr.length->RV F (H++L) (ι++ιL) w p.2 (a.tmps.getD d undef)
theorem ZcN {P:Program} {ops:Array Oper} {Q:Exit->Act->World->Prop} {F H fr vals} {n:Nat} {l:List Oper} {ms:List Nat} {K:List V->List Obj->Prop} (hol:ops.toList=l) (hB:Wa ops n=true) (hvl:vals.length=n)
  (hms: ∀m∈ms,m<n/\ops[m]? =some (ZJ l m)/\(ZJ l m).guard=none/\vals[m]? =some .junk)
  (hrd: ∀m∈ms,∀t∈opR (ZJ l m).op,∀j,j<n->(ops.toList.map (·.dst))[j]? =some (some t)->j∈Zs m (ZJ l m))
  (hok: ∀(i:Nat) (o:Oper),i<n->i ∉ ms->ops[i]? =some o->ZfI P (ops.toList.map (·.dst)) (Zw ((ops.toList.map (·.dst)).take n) fr) H vals i o) {ι0 w0}
  (ht: ∀fr' L ι a w,K fr' L->Good F H ι0 w0 (H++L) ι w->Fr F (H++L) ι w fr' a->wpList P ops Q (ops.toList.drop n) a w) :
  ∀(u:Nat) (listed:Array Bool) (a:Act) (w:World),HeadInv .any ops n listed->((List.range n).filter fun i=> !listed.getD i false).length=u ->
   ZCU P F H l ms (Zx (ops.toList.map (·.dst)) vals (List.range n) (Zw ((ops.toList.map (·.dst)).take n) fr)) K (ops.toList.map (·.dst)) fr vals n ι0 w0 listed a w->wpAny P .any ops Q (u+(ops.size-n)) listed a w:=by
 simp only [Wa,Bool.and_eq_true,decide_eq_true_eq,Bool.or_eq_true] at hB;obtain ⟨⟨⟨⟨hn,hsc⟩,hea⟩,hap⟩,hseq⟩:=hB
 have hdl:n<=(ops.toList.map (·.dst)).length:=by simpa using hn
 -- the frame at late operations done, azs far azs is listed
 have frAt: ∀ {dn:List (Nat×V)} {L:List Obj} {listed:Array Bool} {ι ιL:List (Option Nat)} {a:Act} {w:World} (ls:List Nat),(∀j∈ls,j<n/\listed.getD j false=true)->Mid (Own F ιL) H (ops.toList.map (·.dst)) fr vals n listed ι a w ->
   (∀p∈dn,∀d,(ZJ l p.1).dst=some d->d<fr.length->RV F (H++L) (ι++ιL) w p.2 (a.tmps.getD d undef)) ->
   Fr F (H++L) (ι++ιL) w (ptl l dn (Zx (ops.toList.map (·.dst)) vals ls (Zw ((ops.toList.map (·.dst)).take n) fr))) a:=fun {dn L listed ι ιL a w} ls hls mid slot=>by
  obtain ⟨f1,f2,f3⟩:=mid.fr ls hls;refine ⟨by rw [Vm];exact f1,f2,fun t x hx=> ?_⟩;rcases Zan l dn _ hx with ⟨p,h1,h2,rfl,h4⟩ | h1
  ·exact slot p h1 t h2 (by rw [ZF,ZH] at h4;exact h4)
  ·exact (f3 t x h1).widen
 intro u
 induction u with
 | zero =>
  intro listed a w inv hm mid
  have hall: ∀i,i<n->listed.getD i false=true:=fun i hi=>by
   have h0:=List.eq_nil_of_length_eq_zero hm
   have:i ∉ (List.range n).filter fun i=> !listed.getD i false:=by rw [h0];simp
   simp only [List.mem_filter,List.mem_range,not_and,Bool.not_eq_true',Bool.not_eq_false] at this;exact this hi
  have hl:listed=Array.replicate n true++Array.replicate (ops.size-n) false:=by
   refine Array.ext (by simp [inv.size];omega) fun i h1 h2=> ?_
   by_cases hi:i<n
   ·have:=hall i hi;rw [Array.getElem_append_left (by simpa using hi)];simp [h1] at this;simp [this]
   ·have:=inv.tail i (by omega) (by rw [<- inv.size];exact h1);rw [Array.getElem_append_right (by simp;omega)];simp [h1] at this;simp [this]
  obtain ⟨rem,dn,L,hnd,hrm,hst,hdn,hlt,ι,ιL,hιl,mid,gd,slot⟩:=mid
  have hs:rem= []:=by
   cases rem with
   | nil=>rfl
   | cons m r =>
    have h1:=hst m (hrm m (by simp));rw [hall _ (hms m (hrm m (by simp))).1] at h1;simp at h1
  subst hs;have hw:=ht _ L (ι++ιL) a w hlt gd (frAt (List.range n) (fun j hj=>⟨List.mem_range.1 hj,hall j (List.mem_range.1 hj)⟩) mid slot);have:=wpAny_of_seq (md:= .any) (Q':=Q) (ops.toList.drop n) n listed a w (fun j=>by simp [List.getElem?_drop]) (by rw [hl];simpa using hseq) hw;simpa using this
 | succ u ih =>
  intro listed a w inv hm mid
  have hun: ∃i,i<n/\listed.getD i false=false:=by
   cases hf:(List.range n).filter fun i=> !listed.getD i false with
   | nil=>rw [hf] at hm;simp at hm
   | cons i l =>
    have:i∈(List.range n).filter fun i=> !listed.getD i false:=by rw [hf];simp
    simp only [List.mem_filter,List.mem_range,Bool.not_eq_true'] at this;exact ⟨i,this⟩
  have hsz: ∀ {i},i<n->i<listed.size:=fun h=>by rw [inv.size];omega
  have hready:Region.ready .any ops listed≠ []:=by
   obtain ⟨i,hi,hu⟩:=hun
   have: ∃i,i<n/\listed.getD i false=false/\ ∀j,j<i->listed.getD j false=true:=by
    induction i using Nat.strongRecOn with
    | _ i ihh =>
     by_cases hex: ∃j,j<i/\listed.getD j false=false
     ·obtain ⟨j,hj,hju⟩:=hex;exact ihh j hj (by omega) hju
     ·exact ⟨i,hi,hu,fun j hj=>by
       cases hb:listed.getD j false with
       | true=>rfl
       | false=>exact absurd ⟨j,hj,hb⟩ hex⟩
   obtain ⟨i,hi,hu,hmin⟩:=this;intro h0
   have:i∈Region.ready .any ops listed:=by
    have hlt:i<ops.size:=by omega
    refine mem_ready.2 ⟨getD_in (hsz hi) hu,ops[i],by simp [hlt],fun e he hb=> ?_⟩;have h1:=List.all_eq_true.1 hea i (List.mem_range.2 hi);simp only [hlt,Array.getElem?_eq_getElem,Array.all_eq_true_iff_forall_mem] at h1;have:=h1 e he;simp [hb] at this;exact hmin _ this
   rw [h0] at this
   cases this
  rw [show u+1+(ops.size-n)=(u+(ops.size-n))+1 by omega];refine ⟨fun h0=>absurd h0 hready,fun i hi=> ?_⟩
  have hin:i<n:=by
   rcases hsc with h | ⟨hs,hc⟩
   ·obtain ⟨_,o,ho,_⟩:=mem_ready.1 hi;have:=(Array.getElem?_eq_some_iff.1 ho).1;omega
   ·rcases Nat.lt_or_ge i n with h | h
    ·exact h
    ·obtain ⟨k,hk,hu⟩:=hun
     by_cases hne:n<ops.size
     ·exact absurd hi (tail_waits hs hc hne inv _ k rfl hk (getD_in (hsz hk) hu) i h)
     ·obtain ⟨_,o,ho,_⟩:=mem_ready.1 hi;have:=(Array.getElem?_eq_some_iff.1 ho).1;omega
  obtain ⟨hiu,o,ho,hall⟩:=mem_ready.1 hi
  have hds:(ops.toList.map (·.dst))[i]? =some o.dst:=by simp [ho]
  have hdeps: ∀j∈Zs i o,j<n/\listed.getD j false=true:=fun j hj=>by
   refine ⟨by have:=Xt j hj;omega,?_⟩;simp [Zs] at hj;obtain ⟨e,⟨he,hb,_⟩,rfl⟩:=hj;exact hall e he hb
  have hcount:((List.range n).filter fun k=> !(listed.setIfInBounds i true).getD k false).length=u:=by
   have e:((List.range n).filter fun k=> !(listed.setIfInBounds i true).getD k false)=((List.range n).filter fun k=> !listed.getD k false).filter (fun k=>k≠i):=by
    rw [List.filter_filter];refine List.filter_congr fun k hk=> ?_
    by_cases hki:k=i
    ·subst hki;simp [hsz hin]
    ·rw [getD_set_ne false (fun h=>hki h.symm)];simp [hki]
   rw [e]
   have hmem:i∈(List.range n).filter fun k=> !listed.getD k false:=by
    simp only [List.mem_filter,List.mem_range,Bool.not_eq_true'];exact ⟨hin,getD_both hiu⟩
   have hnd:((List.range n).filter fun k=> !listed.getD k false).Nodup:=List.nodup_range.filter _;have:=List.Nodup.erase_eq_filter hnd i
   have e2:(((List.range n).filter fun k=> !listed.getD k false).filter (fun k=>k≠i))=((List.range n).filter fun k=> !listed.getD k false).erase i:=by
    rw [this];refine List.filter_congr fun k _=> ?_
    by_cases h:k=i<;>simp [h,bne]
   rw [e2,List.length_erase_of_mem hmem,hm]
   rfl
  have next: ∀v w',ZCU P F H l ms (Zx (ops.toList.map (·.dst)) vals (List.range n) (Zw ((ops.toList.map (·.dst)).take n) fr)) K (ops.toList.map (·.dst)) fr vals n ι0 w0 (listed.setIfInBounds i true) (a.put o.dst v) w'->wpAny P .any ops Q (u+(ops.size-n)) (listed.setIfInBounds i true) (a.put o.dst v) w':=fun v w' h =>
   ih _ _ w' (inv.set hi hin) hcount h
  have hiu2:listed.getD i false=false:=getD_both hiu;obtain ⟨rem,dn,L,hnd,hrm,hst,hdn,hlt,ι,ιL,hιl,mid,gd,slot⟩:=mid
  -- a slot that this operation does not write
  have hoth: ∀ {e:Nat} {v:Value},o.dst≠some e->((a.put o.dst v).tmps).getD e undef=a.tmps.getD e undef:=fun {e v} hne=>by
   cases hdst:o.dst with
   | none=>rfl
   | some d =>
    have hne2:d≠e:=fun h=>hne (by rw [hdst,h]);simp [Act.put,Array.getD_eq_getD_getElem?,Array.getElem?_setIfInBounds_ne hne2]
  have hapart: ∀ {j e:Nat},j<n->j≠i->(ops.toList.map (·.dst))[j]? =some (some e)->o.dst≠some e:=fun {j e} hj hji hd h=>by
   have:=List.all_eq_true.1 (List.all_eq_true.1 hap i (List.mem_range.2 hin)) j (List.mem_range.2 hj);simp [hds,h,hd,Ne.symm hji] at this
  have hdm: ∀m∈ms,(ops.toList.map (·.dst))[m]? =some (ZJ l m).dst:=fun m hm=>by
   have:=(hms m hm).2.1;simp [this]
  unfold wpOp;simp only [ho]
  by_cases him:i∈ms
  ·-- a late one
   obtain ⟨_,hom,hgm,hvm⟩:=hms i him;rw [hom] at ho;simp at ho;subst ho
   have hir:i∈rem:=by
    have h1:=hst i him;rw [hiu2] at h1;simpa using h1.symm
   have hrl:i∈Yr l rem:=by
    rw [Yr,List.mem_filter];refine ⟨hir,List.all_eq_true.2 fun m' hm'=> ?_⟩
    cases hc:(Zs i (ZJ l i)).contains m' with
    | false=>rfl
    | true =>
     have h3:=(hdeps m' (by simpa using hc)).2;rw [hst m' (hrm m' hm')] at h3;simp at h3;exact absurd hm' h3
   obtain ⟨k,hk⟩: ∃k,rem.length=k+1:=⟨rem.length-1,by have:=List.length_pos_of_mem hir;omega⟩;rw [hk] at hlt;obtain ⟨y,L',hstep,hlt'⟩:=hlt i hrl
   let ls:=(List.range n).filter fun j=>listed.getD j false
   have hls: ∀j∈ls,j<n/\listed.getD j false=true:=fun j hj=>by simpa [ls] using hj
   have hfr:=frAt (dn:=dn) (L:=L) ls hls mid slot
   have hag:UE (opR (ZJ l i).op) (Zx (ops.toList.map (·.dst)) vals ls (Zw ((ops.toList.map (·.dst)).take n) fr)) (Zx (ops.toList.map (·.dst)) vals (List.range n) (Zw ((ops.toList.map (·.dst)).take n) fr)) :=
    W0 hap hdl hvl (fun j hj=>(hls j hj).1) fun t ht j hj hd=>by
     have:=hdeps j (hrd i him t ht j hj hd);simpa [ls] using this
   have hl:=(Wm (VZ l (by rw [ZF,ZF]) hag dn)).2 hstep
   have hw:Region.wanted (ZJ l i) (yielded ops a.tmps)=true:=by simp [Region.wanted,hgm]
   rw [if_pos hw];refine .inl (WK hl gd.rel hfr fun x H' ι' v w' hk g r=> ?_);obtain ⟨hx,rfl⟩:=hk;subst hx
   obtain ⟨ι1,ιL',rfl,hl1⟩: ∃ι1 ιL',ι'=ι1++ιL'/\ι1.length=H.length:=⟨ι'.take H.length,ι'.drop H.length,(List.take_append_drop _ _).symm,by
    have:=g.rel.len;rw [List.length_append] at this
    simp;omega⟩
   have trans: ∀ {x:V} {v:Value},RV (Own F ιL) H ι w x v->RV (Own F ιL') H ι1 w' x v:=fun {x v} h=>(g.rv h.widen).narrow hl1 h.refB
   have Zx: ∀m∈ms,(listed.setIfInBounds i true).getD m false=decide (m ∉ rem.erase i):=fun m hm=>by
    by_cases e:m=i
    ·subst e;simp [hsz hin,hnd.not_mem_erase]
    ·rw [getD_set_ne false (fun h=>e h.symm),hst m hm];refine decide_eq_decide.2 (not_congr ?_);rw [List.mem_erase_of_ne e]
   have hpi: ∀p∈dn,p.1≠i:=fun p hp e=>(hdn p hp).2 (e ▸ hir);refine next v w' ⟨rem.erase i,(i,x)::dn,L',hnd.erase i,fun m hm=>hrm m (List.mem_of_mem_erase hm),Zx,fun p hp=> ?_,?_,ι1,ιL',hl1,⟨g.rel.front hl1 mid.rel.refH,?_,?_,fun t z ht' hnt=> ?_,fun j e z hj hlj hd hz hlt=> ?_⟩,gd.trans g,fun p hp d hd hlt=> ?_⟩
   ·rcases List.mem_cons.1 hp with rfl | hp
    ·exact ⟨him,hnd.not_mem_erase⟩
    ·exact ⟨(hdn p hp).1,fun h=>(hdn p hp).2 (List.mem_of_mem_erase h)⟩
   ·have:(rem.erase i).length=k:=by rw [List.length_erase_of_mem hir];omega
    rw [this];exact hlt'
   ·cases (ZJ l i).dst<;>simp [Act.put,mid.size]
   ·cases (ZJ l i).dst<;>exact mid.defers
   ·rw [hoth (fun e=>hnt (by
     rw [List.mem_iff_getElem?]
     exact ⟨i,by rw [List.getElem?_take_of_lt hin,hds,e]⟩))]
    exact trans (mid.old t z ht' hnt)
   ·by_cases hij:j=i
    ·subst hij;rw [hvm] at hz;simp at hz;subst hz;exact .junk _
    ·have hl':listed.getD j false=true:=by rwa [getD_set_ne false (fun h=>hij h.symm)] at hlj
     rw [hoth (hapart hj hij hd)];exact trans (mid.new j e z hj hl' hd hz hlt)
   ·rcases List.mem_cons.1 hp with rfl | hp
    ·simp only at hd;rw [hd]
     have:d<a.tmps.size:=by rw [mid.size];exact hlt
     have e2:((a.put (some d) v).tmps).getD d undef=v:=by simp [Act.put,Array.getD,this]
     rw [e2];exact r
    ·have hpm:=(hdn p hp).1;rw [hoth (hapart (hms _ hpm).1 (hpi p hp) (by rw [hdm _ hpm,hd]))];exact g.rv (slot p hp d hd hlt)
  ·-- another
   obtain ⟨z,hz,hok'⟩:=hok i o hin him ho;have hfr:=mid.fr _ hdeps
   have next': ∀ι' v w',Good (Own F ιL) H ι w H ι' w'->RV (Own F ιL) H ι' w' z v->wpAny P .any ops Q (u+(ops.size-n)) (listed.setIfInBounds i true) (a.put o.dst v) w':=fun ι' v w' g r=>by
    have g2:=Good.front hιl gd.rel g rfl;refine next v w' ⟨rem,dn,L,hnd,hrm,fun m hm=> ?_,hdn,hlt,ι',ιL,g.rel.len,mid.put hap g hin hds hz r,gd.trans g2,fun p hp d hd hlt=> ?_⟩
    ·rw [getD_set_ne false (fun (e:i=m)=>him (e ▸ hm))];exact hst m hm
    ·have hpm:=(hdn p hp).1;rw [hoth (hapart (hms _ hpm).1 (fun h=>him (h ▸ hpm)) (by rw [hdm _ hpm,hd]))];exact g2.rv (slot p hp d hd hlt)
   have run:Zr P o (Zx (ops.toList.map (·.dst)) vals (Zs i o) (Zw ((ops.toList.map (·.dst)).take n) fr)) H (fun x H'=>x=z/\H'=H)->o.wp P a w (wpAny P .any ops Q (u+(ops.size-n)) (listed.setIfInBounds i true)) Q:=fun h =>
    Ug h mid.rel hfr fun x H' ι' v w' hk g r=>by
     obtain ⟨rfl,rfl⟩:=hk;exact next' ι' v w' g r
   split at hok'
   ·rename_i hg
    have hw:Region.wanted o (yielded ops a.tmps)=true:=by simp [Region.wanted,hg]
    rw [if_pos hw];exact .inl (run hok')
   ·rename_i j b hg;rcases hok' with ⟨c,hc,h1,h2⟩ | ⟨hc,hyt⟩
    rotate_left
    ·have hyl:=XF hfr hc
     have hw: ¬(Region.wanted o (yielded ops a.tmps)=true):=by simp [Region.wanted,hg,hyl]
     rw [if_neg hw];exact next' ι undef w (Good.refl mid.rel) (by rw [hyt];exact X8)
    have hyl:=Yi hfr hc
    by_cases hcb:c=b
    ·have hw:Region.wanted o (yielded ops a.tmps)=true:=by simp [Region.wanted,hg,hyl,hcb]
     rw [if_pos hw];exact .inl (run (h1 hcb))
    ·have hw: ¬(Region.wanted o (yielded ops a.tmps)=true):=by simp [Region.wanted,hg,hyl,hcb]
     rw [if_neg hw];exact next' ι undef w (Good.refl mid.rel) (by rw [h2 hcb];exact X8)
def Kk (l : List Oper) (n : Nat) (ms : List Nat) : Bool :=
  (ms.all fun m => decide (m < n) && decide (m < l.length) && ((ZJ l m).guard.isNone && (opR (ZJ l m).op).all fun t => (List.range n).all fun j => match (l.map (·.dst))[j]? with
        | some (some d) => decide (d ≠ t) || (Zs m (ZJ l m)).contains j
        | _ => true)) && decide ms.Nodup
theorem Xo (ms:List Nat) {P:Program} {id:Nat} {l:List Oper} {fr:List V} {H:List Obj} {Q:Exit->List V->List Obj->Prop} {t} (n:Nat) (hm:P.follows .mixedOrders=true) (hB:Wa (List.toArray l) n=true) (hR:Q3 (List.toArray (VD ms l)) n=true) (hL:Kk l n ms=true) (hfl:fr.length<=1000000)
  (h:hs P (l.map (·.dst)) H (Zv (fun fr'=>U9 P H l ms.length ms (idF fr') [] (Zv (fun fr2 L=>YB P (l.map (·.dst)) (l.drop n) fr2 (H++L) (Zv (Q .normal) ⟨⟩)) ⟨⟩)) ⟨⟩) ((VD ms l).take n) (idF fr)) :
  AWP P (.region id (Zv (List.toArray l) t) true) fr H Q:=fun F ι a w hr hf=>by
 refine wp_region_any hm ?_;have hB':=hB;simp only [Wa,Bool.and_eq_true,decide_eq_true_eq] at hB';obtain ⟨⟨⟨⟨hn,_⟩,_⟩,hap⟩,_⟩:=hB'
 have hn2:n<=l.length:=by simpa using hn
 simp only [Kk,Bool.and_eq_true,List.all_eq_true,decide_eq_true_eq] at hL;obtain ⟨hL1,hL3⟩:=hL;have hds:(VD ms l).map (·.dst)=l.map (·.dst):=Qj ms l;have hh:=Zh2 (P:=P) (H:=H) (ops:=List.toArray (VD ms l)) (n:=n) (fr:=fr) (K:=fun fr'=>U9 P H l ms.length ms fr' [] (fun fr2 L=>YB P (l.map (·.dst)) (l.drop n) fr2 (H++L) (Q .normal))) (by simpa [Qq] using hn2) (by simpa [hds] using hap) hR _ 0 [] (Nat.zero_le _) rfl (by simp;rfl) (by simpa [hds,Zx,Zv,idF] using h);obtain ⟨ys,h1,⟨h2a,h2b⟩,h3⟩:=V2 _ 0 [] rfl hh;simp only [List.nil_append,hds] at h2a h2b h3
 have hlen:ys.length=n:=h2a;have g0:=Good.drew hr;have hf0:=g0.fr hf;have hget: ∀k,k<n->((VD ms l).take n)[k]? =(VD ms l)[k]? :=fun k hk=>List.getElem?_take_of_lt hk;have hjl:(Zw ((l.map (·.dst)).take n) fr).length=fr.length:=ZH _ _
 have hlat: ∀m∈ms,m<n/\l[m]? =some (ZJ l m)/\(ZJ l m).guard=none:=fun m hm=>by
  obtain ⟨⟨h4,h5⟩,h6,_⟩:=hL1 m hm;exact ⟨h4,by rw [Vy,List.getD_eq_getElem?_getD,List.getElem?_eq_getElem h5];rfl,by simpa using h6⟩
 have hvm: ∀m∈ms,ys[m]? =some .junk:=fun m hm=>by
  obtain ⟨q1,q2,q3⟩:=hlat m hm;obtain ⟨z,hy,hk⟩:=h3 m (W6 (ZJ l m)) (by rw [hget _ q1];exact Jy ms l _ _ hm q2);rw [Nat.zero_add] at hy;have e1:(W6 (ZJ l m)).guard=none:=q3;rw [e1] at hk;simp only [W6,Zr,Zt,Xe,XI,aop,ZB] at hk
  have hk2:gt (Zx (l.map (·.dst)) ys (Zs (0+m) { ZJ l m with op:= .move (.tmp 1000000) }) (Zw ((l.map (·.dst)).take n) fr)) 1000000=z:=by simpa [ev] using hk
  rw [ZdM (by rw [ZF,hjl];exact hfl)] at hk2;rw [hy,hk2]
 have hfin:Zx (l.map (·.dst)) ys (List.range n) (Zw ((l.map (·.dst)).take n) fr)=Zx (l.map (·.dst)) ys (List.range n) fr:=Qy hap (by simpa using hn2) hlen
 have:=ZcN (Q:=fun e a' w'=> ∃fr' H' ι',Q e fr' H'/\Good F H ι w H' ι' w'/\Fr F H' ι' w' fr' a') (F:=F) (fr:=fr) (vals:=ys) (P:=P) (H:=H) (l:=l) (ms:=ms) (K:=fun fr2 L=>YB P (l.map (·.dst)) (l.drop n) fr2 (H++L) (Q .normal)) (ops:=List.toArray l) (ι0:=ι) (w0:= { w with drawn:=w.drawn+1 }) rfl hB hlen
  (fun m hm=>⟨(hlat m hm).1,by simpa using (hlat m hm).2.1,(hlat m hm).2.2,hvm m hm⟩)
  (fun m hm t ht j hj hd=>by
   obtain ⟨_,_,h5⟩:=hL1 m hm;have h6:=h5 t ht j (List.mem_range.2 hj);simp only at hd;rw [hd] at h6
   simpa using h6)
  (fun i o hi him ho=>by
   have:=h3 i o (by
    rw [hget i hi,VU]
    ·simpa using ho
    ·exact him)
   rwa [Nat.zero_add] at this)
  (fun fr2 L ι1 a1 w1 k1 g1 f1=>ZN (P:=P) (ops:=List.toArray l) _ _ (H++L) _ k1 F ι1 a1 w1 g1.rel f1 fun fr' H' ι' a' w' k g f=>⟨fr',H',ι',k,g0.trans (g1.trans g),f⟩)
  n (Array.replicate l.length false) a { w with drawn:=w.drawn+1 }
  ⟨by simp,fun j oj _ hl=>(by rw [getD_replicate_false] at hl;cases hl),fun t _ ht=>getD_in (by simpa using ht) (getD_replicate_false _ _)⟩
  (by
   rw [List.filter_eq_self.2 (fun i _=>by rw [getD_replicate_false];rfl)]
   simp)
  ⟨ms,[],[],hL3,fun m hm=>hm,fun m hm=>by rw [getD_replicate_false];simp [hm],fun p hp=>(by cases hp),by
    simp only [ptl];rw [hfin]
    exact h2b,ι,[],hr.len,by
   have g1:Rel F (H++ []) (ι++ []) { w with drawn:=w.drawn+1 } :=by simpa using g0.rel
   have r1:=g1.front hr.len hr.refH
   exact ⟨r1,hf0.1,hf0.2.1,fun t x ht _=>RV.narrow (L:= []) hr.len (by simpa using hf0.2.2 t x ht) (hf0.2.2 t x ht).refB,fun j d x _ hl=>by rw [getD_replicate_false] at hl;cases hl⟩,
   by simpa using Good.refl g0.rel,fun p hp=>(by cases hp)⟩
 simp only [List.size_toArray] at this;simp only [Zv,List.size_toArray];rwa [show n+(l.length-n)=l.length by omega] at this
theorem XV {P H l rem fr L K} (h:K fr L):U9 P H l 0 rem fr L K:=h
theorem Zia {P H l n rem fr L K} (rs:List Nat) (hr:Yr l rem=rs) (h: ∀m∈rs,∃y L',Zt P (ZJ l m) fr (H++L) (fun x H'=>x=y/\H'=H++L')/\U9 P H l n (rem.erase m) (ptO fr (ZJ l m).dst y) L' K):U9 P H l (n+1) rem fr L K:=fun m hm=>h m (hr ▸ hm)
theorem ZG {P H l n rem fr L K} (m:Nat) (y:V) (L':List Obj) (hr:Yr l rem= [m]) (h:Zt P (ZJ l m) fr (H++L) (fun x H'=>x=y/\H'=H++L')) (k:U9 P H l n (rem.erase m) (ptO fr (ZJ l m).dst y) L' K):U9 P H l (n+1) rem fr L K :=
 Zia [m] hr fun m' hm'=>by
  rw [List.mem_singleton] at hm';subst hm';exact ⟨y,L',h,k⟩
theorem VP {P H l n rem fr L K} (m m2:Nat) (y:V) (L':List Obj) (y2:V) (L2:List Obj) (hr:Yr l rem= [m,m2]) (h:Zt P (ZJ l m) fr (H++L) (fun x H'=>x=y/\H'=H++L')) (h2:Zt P (ZJ l m2) fr (H++L) (fun x H'=>x=y2/\H'=H++L2))
  (k:U9 P H l n (rem.erase m) (ptO fr (ZJ l m).dst y) L' K) (k2:U9 P H l n (rem.erase m2) (ptO fr (ZJ l m2).dst y2) L2 K):U9 P H l (n+1) rem fr L K :=
 Zia [m,m2] hr fun m' hm'=>by
  rcases List.mem_cons.1 hm' with rfl | hm'
  ·exact ⟨y,L',h,k⟩
  ·rw [List.mem_singleton] at hm';subst hm';exact ⟨y2,L2,h2,k2⟩
def WO : Op->Bool
 | .move _=>true
 | .assign _=>true
 | .binOp _ _ _ _ _=>true
 | .unOp _ _ _=>true
 | .pick _ _ _=>true
 | _=>false
theorem VX {P:Program} {o:Oper} (h:WO o.op=true) {fr:List V} {H H2:List Obj} {y:V} (k:Zr P o fr H (fun x H'=>x=y/\H'=H)):Zr P o fr H2 (fun x H'=>x=y/\H'=H2):=by
 have key: ∀(f:List Obj->Option V),(∀A B,f A=f B)->(match (match f H with | some x=>some (x,H) | none=>(none:Option (V×List Obj))) with | some (x,H')=>x=y/\H'=H | none=>False)->(match (match f H2 with | some x=>some (x,H2) | none=>(none:Option (V×List Obj))) with | some (x,H')=>x=y/\H'=H2 | none=>False):=fun f hf hk=>by
  rw [hf H2 H]
  cases hfh:f H with
  | none=>rw [hfh] at hk;exact hk
  | some x=>rw [hfh] at hk;exact ⟨hk.1,rfl⟩
 unfold Zr Zt at k ⊢
 cases hop:o.op with
 | move x=>rw [hop] at k;simp only [XI,aop,ZB,Xe] at k ⊢;first | exact ⟨k.1,rfl⟩ | exact ⟨k.1,trivial⟩
 | assign x=>rw [hop] at k;simp only [XI,aop,ZB,Xe] at k ⊢;first | exact ⟨k.1,rfl⟩ | exact ⟨k.1,trivial⟩
 | binOp a b c d e =>
  rw [hop] at k;simp only [XI,aop,ZB,Xe,W5] at k ⊢
  cases hb:Ym P a b (ev fr c) (ev fr d) with
  | none=>rw [hb] at k;simp at k
  | some z=>rw [hb] at k;simp at k ⊢;exact k
 | unOp a b c =>
  rw [hop] at k;simp only [XI,aop,ZB,Xe,W5] at k ⊢
  cases hb:aun a (ev fr c) with
  | none=>rw [hb] at k;simp at k
  | some z=>rw [hb] at k;simp at k ⊢;exact k
 | pick c x z =>
  rw [hop] at k;simp only [XI,aop,ZB,Xe,W5] at k ⊢
  cases hb:asB (ev fr c) with
  | none=>rw [hb] at k;simp at k
  | some z=>rw [hb] at k;simp at k ⊢;exact k
 | _=>rw [hop] at h;cases h
theorem Jv {P:Program} {ds:List (Option Nat)} {fr vals:List V} {H H2:List Obj} {i:Nat} {o:Oper} (h:WO o.op=true) (k:ZfI P ds fr H vals i o):ZfI P ds fr H2 vals i o:=by
 obtain ⟨y,h1,h2⟩:=k;refine ⟨y,h1,?_⟩
 split at h2
 ·exact VX h h2
 ·rcases h2 with ⟨c,q1,q2,q3⟩ | q
  ·exact .inl ⟨c,q1,fun e=>VX h (q2 e),q3⟩
  ·exact .inr q
def Jk (l:List Oper):Nat->Nat->Nat->Bool
 | 0,_,_=>false
 | f+1,i,m=>(Zs m (ZJ l m)).any fun j=>decide (j=i)||Jk l f i j
theorem Wi {l:List Oper} {ops:Array Oper} (hol:ops.toList=l) {n:Nat} {listed:Array Bool} (inv:HeadInv .any ops n listed): ∀(f i m:Nat),m<l.length->Jk l f i m=true->(∀j∈Zs m (ZJ l m),listed.getD j false=true)->listed.getD i false=true
 | 0,_,_,_,h,_=>by cases h
 | f+1,i,m,hm,h,hd=>by
  rw [Jk,List.any_eq_true] at h;obtain ⟨j,hj,h⟩:=h;rw [Bool.or_eq_true] at h;rcases h with h | h
  ·rw [<- of_decide_eq_true h];exact hd j hj
  ·have hjm:j<m:=Xt j hj
   have hjl:j<l.length:=by omega
   refine Wi hol inv f i j hjl h fun k hk=> ?_
   have ho:ops[j]? =some (ZJ l j):=by
    rw [<- Array.getElem?_toList,hol,Vy,List.getD_eq_getElem?_getD,List.getElem?_eq_getElem hjl];rfl
   simp [Zs] at hk;obtain ⟨e,⟨he,hb,_⟩,rfl⟩:=hk;exact inv.closed j _ ho (hd j hj) e he hb
def Zc6 (P:Program) (l:List Oper):Nat->List Nat->List V->List Obj->(List V->List Obj->Prop)->Prop
 | 0,_,fr,H,K=>K fr H
 | n+1,rem,fr,H,K=> ∀m∈Yr l rem,∃y H',Zt P (ZJ l m) fr H (fun x H2=>x=y/\H2=H')/\Zc6 P l n (rem.erase m) (ptO fr (ZJ l m).dst y) H' K
def ZDa (P:Program) (F:Nat->Prop) (H:List Obj) (l:List Oper) (ms:List Nat) (bs:List V) (K:List V->List Obj->Prop) (ds:List (Option Nat)) (fr vals:List V) (n:Nat) (ι0:List (Option Nat)) (w0:World) (listed:Array Bool) (a:Act) (w:World):Prop :=
 ∃(rem:List Nat) (dn:List (Nat×V)) (L:List Obj),((∀m∈ms,m∈rem)->L=H)/\rem.Nodup/\(∀m∈rem,m∈ms)/\(∀m∈ms,listed.getD m false=decide (m ∉ rem))/\(∀p∈dn,p.1∈ms/\p.1 ∉ rem)/\Zc6 P l rem.length rem (ptl l dn bs) L K /\
  ∃ι,Mid F L ds fr vals n listed ι a w/\Good F H ι0 w0 L ι w /\
   ∀p∈dn,∀d,(ZJ l p.1).dst=some d->d<fr.length->RV F L ι w p.2 (a.tmps.getD d undef)
theorem Zc8 {P:Program} {ops:Array Oper} {Q:Exit->Act->World->Prop} {F H fr vals} {n:Nat} {l:List Oper} {ms:List Nat} {K:List V->List Obj->Prop} (hol:ops.toList=l) (hB:Wa ops n=true) (hvl:vals.length=n)
  (hms: ∀m∈ms,m<n/\ops[m]? =some (ZJ l m)/\(ZJ l m).guard=none/\vals[m]? =some .junk)
  (hrd: ∀m∈ms,∀t∈opR (ZJ l m).op,∀j,j<n->(ops.toList.map (·.dst))[j]? =some (some t)->j∈Zs m (ZJ l m))
  (hev: ∀i,i<n->i ∉ ms->WO (ZJ l i).op=true\/ ∀m∈ms,Jk l n i m=true)
  (hok: ∀(i:Nat) (o:Oper),i<n->i ∉ ms->ops[i]? =some o->ZfI P (ops.toList.map (·.dst)) (Zw ((ops.toList.map (·.dst)).take n) fr) H vals i o) {ι0 w0}
  (ht: ∀fr' L ι a w,K fr' L->Good F H ι0 w0 L ι w->Fr F L ι w fr' a->wpList P ops Q (ops.toList.drop n) a w) :
  ∀(u:Nat) (listed:Array Bool) (a:Act) (w:World),HeadInv .any ops n listed->((List.range n).filter fun i=> !listed.getD i false).length=u ->
   ZDa P F H l ms (Zx (ops.toList.map (·.dst)) vals (List.range n) (Zw ((ops.toList.map (·.dst)).take n) fr)) K (ops.toList.map (·.dst)) fr vals n ι0 w0 listed a w->wpAny P .any ops Q (u+(ops.size-n)) listed a w:=by
 simp only [Wa,Bool.and_eq_true,decide_eq_true_eq,Bool.or_eq_true] at hB;obtain ⟨⟨⟨⟨hn,hsc⟩,hea⟩,hap⟩,hseq⟩:=hB
 have hdl:n<=(ops.toList.map (·.dst)).length:=by simpa using hn
 -- the frame at late operations done, azs far azs is listed
 have frAt: ∀ {dn:List (Nat×V)} {L:List Obj} {listed:Array Bool} {ι:List (Option Nat)} {a:Act} {w:World} (ls:List Nat),(∀j∈ls,j<n/\listed.getD j false=true)->Mid F L (ops.toList.map (·.dst)) fr vals n listed ι a w ->
   (∀p∈dn,∀d,(ZJ l p.1).dst=some d->d<fr.length->RV F L ι w p.2 (a.tmps.getD d undef)) ->
   Fr F L ι w (ptl l dn (Zx (ops.toList.map (·.dst)) vals ls (Zw ((ops.toList.map (·.dst)).take n) fr))) a:=fun {dn L listed ι a w} ls hls mid slot=>by
  obtain ⟨f1,f2,f3⟩:=mid.fr ls hls;refine ⟨by rw [Vm];exact f1,f2,fun t x hx=> ?_⟩;rcases Zan l dn _ hx with ⟨p,h1,h2,rfl,h4⟩ | h1
  ·exact slot p h1 t h2 (by rw [ZF,ZH] at h4;exact h4)
  ·exact f3 t x h1
 intro u
 induction u with
 | zero =>
  intro listed a w inv hm mid
  have hall: ∀i,i<n->listed.getD i false=true:=fun i hi=>by
   have h0:=List.eq_nil_of_length_eq_zero hm
   have:i ∉ (List.range n).filter fun i=> !listed.getD i false:=by rw [h0];simp
   simp only [List.mem_filter,List.mem_range,not_and,Bool.not_eq_true',Bool.not_eq_false] at this;exact this hi
  have hl:listed=Array.replicate n true++Array.replicate (ops.size-n) false:=by
   refine Array.ext (by simp [inv.size];omega) fun i h1 h2=> ?_
   by_cases hi:i<n
   ·have:=hall i hi;rw [Array.getElem_append_left (by simpa using hi)];simp [h1] at this;simp [this]
   ·have:=inv.tail i (by omega) (by rw [<- inv.size];exact h1);rw [Array.getElem_append_right (by simp;omega)];simp [h1] at this;simp [this]
  obtain ⟨rem,dn,L,hLH,hnd,hrm,hst,hdn,hlt,ι,mid,gd,slot⟩:=mid
  have hs:rem= []:=by
   cases rem with
   | nil=>rfl
   | cons m r =>
    have h1:=hst m (hrm m (by simp));rw [hall _ (hms m (hrm m (by simp))).1] at h1;simp at h1
  subst hs;have hw:=ht _ L ι a w hlt gd (frAt (List.range n) (fun j hj=>⟨List.mem_range.1 hj,hall j (List.mem_range.1 hj)⟩) mid slot);have:=wpAny_of_seq (md:= .any) (Q':=Q) (ops.toList.drop n) n listed a w (fun j=>by simp [List.getElem?_drop]) (by rw [hl];simpa using hseq) hw;simpa using this
 | succ u ih =>
  intro listed a w inv hm mid
  have hun: ∃i,i<n/\listed.getD i false=false:=by
   cases hf:(List.range n).filter fun i=> !listed.getD i false with
   | nil=>rw [hf] at hm;simp at hm
   | cons i l =>
    have:i∈(List.range n).filter fun i=> !listed.getD i false:=by rw [hf];simp
    simp only [List.mem_filter,List.mem_range,Bool.not_eq_true'] at this;exact ⟨i,this⟩
  have hsz: ∀ {i},i<n->i<listed.size:=fun h=>by rw [inv.size];omega
  have hready:Region.ready .any ops listed≠ []:=by
   obtain ⟨i,hi,hu⟩:=hun
   have: ∃i,i<n/\listed.getD i false=false/\ ∀j,j<i->listed.getD j false=true:=by
    induction i using Nat.strongRecOn with
    | _ i ihh =>
     by_cases hex: ∃j,j<i/\listed.getD j false=false
     ·obtain ⟨j,hj,hju⟩:=hex;exact ihh j hj (by omega) hju
     ·exact ⟨i,hi,hu,fun j hj=>by
       cases hb:listed.getD j false with
       | true=>rfl
       | false=>exact absurd ⟨j,hj,hb⟩ hex⟩
   obtain ⟨i,hi,hu,hmin⟩:=this;intro h0
   have:i∈Region.ready .any ops listed:=by
    have hlt:i<ops.size:=by omega
    refine mem_ready.2 ⟨getD_in (hsz hi) hu,ops[i],by simp [hlt],fun e he hb=> ?_⟩;have h1:=List.all_eq_true.1 hea i (List.mem_range.2 hi);simp only [hlt,Array.getElem?_eq_getElem,Array.all_eq_true_iff_forall_mem] at h1;have:=h1 e he;simp [hb] at this;exact hmin _ this
   rw [h0] at this
   cases this
  rw [show u+1+(ops.size-n)=(u+(ops.size-n))+1 by omega];refine ⟨fun h0=>absurd h0 hready,fun i hi=> ?_⟩
  have hin:i<n:=by
   rcases hsc with h | ⟨hs,hc⟩
   ·obtain ⟨_,o,ho,_⟩:=mem_ready.1 hi;have:=(Array.getElem?_eq_some_iff.1 ho).1;omega
   ·rcases Nat.lt_or_ge i n with h | h
    ·exact h
    ·obtain ⟨k,hk,hu⟩:=hun
     by_cases hne:n<ops.size
     ·exact absurd hi (tail_waits hs hc hne inv _ k rfl hk (getD_in (hsz hk) hu) i h)
     ·obtain ⟨_,o,ho,_⟩:=mem_ready.1 hi;have:=(Array.getElem?_eq_some_iff.1 ho).1;omega
  obtain ⟨hiu,o,ho,hall⟩:=mem_ready.1 hi
  have hds:(ops.toList.map (·.dst))[i]? =some o.dst:=by simp [ho]
  have hdeps: ∀j∈Zs i o,j<n/\listed.getD j false=true:=fun j hj=>by
   refine ⟨by have:=Xt j hj;omega,?_⟩;simp [Zs] at hj;obtain ⟨e,⟨he,hb,_⟩,rfl⟩:=hj;exact hall e he hb
  have hcount:((List.range n).filter fun k=> !(listed.setIfInBounds i true).getD k false).length=u:=by
   have e:((List.range n).filter fun k=> !(listed.setIfInBounds i true).getD k false)=((List.range n).filter fun k=> !listed.getD k false).filter (fun k=>k≠i):=by
    rw [List.filter_filter];refine List.filter_congr fun k hk=> ?_
    by_cases hki:k=i
    ·subst hki;simp [hsz hin]
    ·rw [getD_set_ne false (fun h=>hki h.symm)];simp [hki]
   rw [e]
   have hmem:i∈(List.range n).filter fun k=> !listed.getD k false:=by
    simp only [List.mem_filter,List.mem_range,Bool.not_eq_true'];exact ⟨hin,getD_both hiu⟩
   have hnd:((List.range n).filter fun k=> !listed.getD k false).Nodup:=List.nodup_range.filter _;have:=List.Nodup.erase_eq_filter hnd i
   have e2:(((List.range n).filter fun k=> !listed.getD k false).filter (fun k=>k≠i))=((List.range n).filter fun k=> !listed.getD k false).erase i:=by
    rw [this];refine List.filter_congr fun k _=> ?_
    by_cases h:k=i<;>simp [h,bne]
   rw [e2,List.length_erase_of_mem hmem,hm]
   rfl
  have next: ∀v w',ZDa P F H l ms (Zx (ops.toList.map (·.dst)) vals (List.range n) (Zw ((ops.toList.map (·.dst)).take n) fr)) K (ops.toList.map (·.dst)) fr vals n ι0 w0 (listed.setIfInBounds i true) (a.put o.dst v) w'->wpAny P .any ops Q (u+(ops.size-n)) (listed.setIfInBounds i true) (a.put o.dst v) w':=fun v w' h =>
   ih _ _ w' (inv.set hi hin) hcount h
  have hiu2:listed.getD i false=false:=getD_both hiu;obtain ⟨rem,dn,L,hLH,hnd,hrm,hst,hdn,hlt,ι,mid,gd,slot⟩:=mid
  -- a slot that this operation does not write
  have hoth: ∀ {e:Nat} {v:Value},o.dst≠some e->((a.put o.dst v).tmps).getD e undef=a.tmps.getD e undef:=fun {e v} hne=>by
   cases hdst:o.dst with
   | none=>rfl
   | some d =>
    have hne2:d≠e:=fun h=>hne (by rw [hdst,h]);simp [Act.put,Array.getD_eq_getD_getElem?,Array.getElem?_setIfInBounds_ne hne2]
  have hapart: ∀ {j e:Nat},j<n->j≠i->(ops.toList.map (·.dst))[j]? =some (some e)->o.dst≠some e:=fun {j e} hj hji hd h=>by
   have:=List.all_eq_true.1 (List.all_eq_true.1 hap i (List.mem_range.2 hin)) j (List.mem_range.2 hj);simp [hds,h,hd,Ne.symm hji] at this
  have hdm: ∀m∈ms,(ops.toList.map (·.dst))[m]? =some (ZJ l m).dst:=fun m hm=>by
   have:=(hms m hm).2.1;simp [this]
  unfold wpOp;simp only [ho]
  by_cases him:i∈ms
  ·-- a late one
   obtain ⟨_,hom,hgm,hvm⟩:=hms i him;rw [hom] at ho;simp at ho;subst ho
   have hir:i∈rem:=by
    have h1:=hst i him;rw [hiu2] at h1;simpa using h1.symm
   have hrl:i∈Yr l rem:=by
    rw [Yr,List.mem_filter];refine ⟨hir,List.all_eq_true.2 fun m' hm'=> ?_⟩
    cases hc:(Zs i (ZJ l i)).contains m' with
    | false=>rfl
    | true =>
     have h3:=(hdeps m' (by simpa using hc)).2;rw [hst m' (hrm m' hm')] at h3;simp at h3;exact absurd hm' h3
   obtain ⟨k,hk⟩: ∃k,rem.length=k+1:=⟨rem.length-1,by have:=List.length_pos_of_mem hir;omega⟩;rw [hk] at hlt;obtain ⟨y,L',hstep,hlt'⟩:=hlt i hrl
   let ls:=(List.range n).filter fun j=>listed.getD j false
   have hls: ∀j∈ls,j<n/\listed.getD j false=true:=fun j hj=>by simpa [ls] using hj
   have hfr:=frAt (dn:=dn) (L:=L) ls hls mid slot
   have hag:UE (opR (ZJ l i).op) (Zx (ops.toList.map (·.dst)) vals ls (Zw ((ops.toList.map (·.dst)).take n) fr)) (Zx (ops.toList.map (·.dst)) vals (List.range n) (Zw ((ops.toList.map (·.dst)).take n) fr)) :=
    W0 hap hdl hvl (fun j hj=>(hls j hj).1) fun t ht j hj hd=>by
     have:=hdeps j (hrd i him t ht j hj hd);simpa [ls] using this
   have hl:=(Wm (VZ l (by rw [ZF,ZF]) hag dn)).2 hstep
   have hw:Region.wanted (ZJ l i) (yielded ops a.tmps)=true:=by simp [Region.wanted,hgm]
   rw [if_pos hw];refine .inl (WK hl gd.rel hfr fun x H' ι' v w' hk g r=> ?_);obtain ⟨hx,rfl⟩:=hk;subst hx;have trans: ∀ {x:V} {v:Value},RV F L ι w x v->RV F H' ι' w' x v:=fun {x v} h=>g.rv h
   have Zx: ∀m∈ms,(listed.setIfInBounds i true).getD m false=decide (m ∉ rem.erase i):=fun m hm=>by
    by_cases e:m=i
    ·subst e;simp [hsz hin,hnd.not_mem_erase]
    ·rw [getD_set_ne false (fun h=>e h.symm),hst m hm];refine decide_eq_decide.2 (not_congr ?_);rw [List.mem_erase_of_ne e]
   have hpi: ∀p∈dn,p.1≠i:=fun p hp e=>(hdn p hp).2 (e ▸ hir);refine next v w' ⟨rem.erase i,(i,x)::dn,H',fun hall=>absurd (hall i him) hnd.not_mem_erase,hnd.erase i,fun m hm=>hrm m (List.mem_of_mem_erase hm),Zx,fun p hp=> ?_,?_,ι',⟨g.rel,?_,?_,fun t z ht' hnt=> ?_,fun j e z hj hlj hd hz hlt=> ?_⟩,gd.trans g,fun p hp d hd hlt=> ?_⟩
   ·rcases List.mem_cons.1 hp with rfl | hp
    ·exact ⟨him,hnd.not_mem_erase⟩
    ·exact ⟨(hdn p hp).1,fun h=>(hdn p hp).2 (List.mem_of_mem_erase h)⟩
   ·have:(rem.erase i).length=k:=by rw [List.length_erase_of_mem hir];omega
    rw [this];exact hlt'
   ·cases (ZJ l i).dst<;>simp [Act.put,mid.size]
   ·cases (ZJ l i).dst<;>exact mid.defers
   ·rw [hoth (fun e=>hnt (by
     rw [List.mem_iff_getElem?]
     exact ⟨i,by rw [List.getElem?_take_of_lt hin,hds,e]⟩))]
    exact trans (mid.old t z ht' hnt)
   ·by_cases hij:j=i
    ·subst hij;rw [hvm] at hz;simp at hz;subst hz;exact .junk _
    ·have hl':listed.getD j false=true:=by rwa [getD_set_ne false (fun h=>hij h.symm)] at hlj
     rw [hoth (hapart hj hij hd)];exact trans (mid.new j e z hj hl' hd hz hlt)
   ·rcases List.mem_cons.1 hp with rfl | hp
    ·simp only at hd;rw [hd]
     have:d<a.tmps.size:=by rw [mid.size];exact hlt
     have e2:((a.put (some d) v).tmps).getD d undef=v:=by simp [Act.put,Array.getD,this]
     rw [e2];exact r
    ·have hpm:=(hdn p hp).1;rw [hoth (hapart (hms _ hpm).1 (hpi p hp) (by rw [hdm _ hpm,hd]))];exact g.rv (slot p hp d hd hlt)
  ·-- another
   have hil:i<l.length:=by have:=(Array.getElem?_eq_some_iff.1 ho).1;rw [<- hol];simpa using this
   have hlo:ZJ l i=o:=by
    have e:ops[i]? =some (ZJ l i):=by
     rw [<- Array.getElem?_toList,hol,Vy,List.getD_eq_getElem?_getD,List.getElem?_eq_getElem hil];rfl
    rw [ho] at e;simpa using e.symm
   have hokL:ZfI P (ops.toList.map (·.dst)) (Zw ((ops.toList.map (·.dst)).take n) fr) L vals i o:=by
    by_cases hall: ∀m∈ms,m∈rem
    ·rw [hLH hall];exact hok i o hin him ho
    ·rcases hev i hin him with h | h
     ·exact Jv (by rw [<- hlo];exact h) (hok i o hin him ho)
     ·exfalso;refine hall fun m hm=>Classical.byContradiction fun hnr=> ?_;have h1:=hst m hm;rw [decide_eq_true hnr] at h1
      have hml:m<l.length:=by have:=(Array.getElem?_eq_some_iff.1 (hms m hm).2.1).1;rw [<- hol];simpa using this
      have:=Wi hol inv n i m hml (h m hm) fun j hj=>by
       simp [Zs] at hj;obtain ⟨e,⟨he,hb,_⟩,rfl⟩:=hj;exact inv.closed m _ (hms m hm).2.1 h1 e he hb
      rw [hiu2] at this;cases this
   obtain ⟨z,hz,hok'⟩:=hokL;have hfr:=mid.fr _ hdeps
   have next': ∀ι' v w',Good F L ι w L ι' w'->RV F L ι' w' z v->wpAny P .any ops Q (u+(ops.size-n)) (listed.setIfInBounds i true) (a.put o.dst v) w':=fun ι' v w' g r=>by
    refine next v w' ⟨rem,dn,L,hLH,hnd,hrm,fun m hm=> ?_,hdn,hlt,ι',mid.put hap g hin hds hz r,gd.trans g,fun p hp d hd hlt=> ?_⟩
    ·rw [getD_set_ne false (fun (e:i=m)=>him (e ▸ hm))];exact hst m hm
    ·have hpm:=(hdn p hp).1;rw [hoth (hapart (hms _ hpm).1 (fun h=>him (h ▸ hpm)) (by rw [hdm _ hpm,hd]))];exact g.rv (slot p hp d hd hlt)
   have run:Zr P o (Zx (ops.toList.map (·.dst)) vals (Zs i o) (Zw ((ops.toList.map (·.dst)).take n) fr)) L (fun x H'=>x=z/\H'=L)->o.wp P a w (wpAny P .any ops Q (u+(ops.size-n)) (listed.setIfInBounds i true)) Q:=fun h =>
    Ug h mid.rel hfr fun x H' ι' v w' hk g r=>by
     obtain ⟨rfl,rfl⟩:=hk;exact next' ι' v w' g r
   split at hok'
   ·rename_i hg
    have hw:Region.wanted o (yielded ops a.tmps)=true:=by simp [Region.wanted,hg]
    rw [if_pos hw];exact .inl (run hok')
   ·rename_i j b hg;rcases hok' with ⟨c,hc,h1,h2⟩ | ⟨hc,hyt⟩
    rotate_left
    ·have hyl:=XF hfr hc
     have hw: ¬(Region.wanted o (yielded ops a.tmps)=true):=by simp [Region.wanted,hg,hyl]
     rw [if_neg hw];exact next' ι undef w (Good.refl mid.rel) (by rw [hyt];exact X8)
    have hyl:=Yi hfr hc
    by_cases hcb:c=b
    ·have hw:Region.wanted o (yielded ops a.tmps)=true:=by simp [Region.wanted,hg,hyl,hcb]
     rw [if_pos hw];exact .inl (run (h1 hcb))
    ·have hw: ¬(Region.wanted o (yielded ops a.tmps)=true):=by simp [Region.wanted,hg,hyl,hcb]
     rw [if_neg hw];exact next' ι undef w (Good.refl mid.rel) (by rw [h2 hcb];exact X8)
def evB (l:List Oper) (n:Nat) (ms:List Nat):Bool:=(List.range n).all fun i=>ms.contains i||WO (ZJ l i).op||ms.all fun m=>Jk l n i m
theorem ZeV (ms:List Nat) {P:Program} {id:Nat} {l:List Oper} {fr:List V} {H:List Obj} {Q:Exit->List V->List Obj->Prop} {t} (n:Nat) (hm:P.follows .mixedOrders=true) (hB:Wa (List.toArray l) n=true) (hR:Q3 (List.toArray (VD ms l)) n=true) (hL:Kk l n ms=true) (hE:evB l n ms=true) (hfl:fr.length<=1000000)
  (h:hs P (l.map (·.dst)) H (Zv (fun fr'=>Zc6 P l ms.length ms (idF fr') H (Zv (fun fr2 L=>YB P (l.map (·.dst)) (l.drop n) fr2 L (Zv (Q .normal) ⟨⟩)) ⟨⟩)) ⟨⟩) ((VD ms l).take n) (idF fr)) :
  AWP P (.region id (Zv (List.toArray l) t) true) fr H Q:=fun F ι a w hr hf=>by
 refine wp_region_any hm ?_;have hB':=hB;simp only [Wa,Bool.and_eq_true,decide_eq_true_eq] at hB';obtain ⟨⟨⟨⟨hn,_⟩,_⟩,hap⟩,_⟩:=hB'
 have hn2:n<=l.length:=by simpa using hn
 simp only [Kk,Bool.and_eq_true,List.all_eq_true,decide_eq_true_eq] at hL;obtain ⟨hL1,hL3⟩:=hL;have hds:(VD ms l).map (·.dst)=l.map (·.dst):=Qj ms l;have hh:=Zh2 (P:=P) (H:=H) (ops:=List.toArray (VD ms l)) (n:=n) (fr:=fr) (K:=fun fr'=>Zc6 P l ms.length ms fr' H (fun fr2 L=>YB P (l.map (·.dst)) (l.drop n) fr2 L (Q .normal))) (by simpa [Qq] using hn2) (by simpa [hds] using hap) hR _ 0 [] (Nat.zero_le _) rfl (by simp;rfl) (by simpa [hds,Zx,Zv,idF] using h);obtain ⟨ys,h1,⟨h2a,h2b⟩,h3⟩:=V2 _ 0 [] rfl hh;simp only [List.nil_append,hds] at h2a h2b h3
 have hlen:ys.length=n:=h2a;have g0:=Good.drew hr;have hf0:=g0.fr hf;have hget: ∀k,k<n->((VD ms l).take n)[k]? =(VD ms l)[k]? :=fun k hk=>List.getElem?_take_of_lt hk;have hjl:(Zw ((l.map (·.dst)).take n) fr).length=fr.length:=ZH _ _
 have hlat: ∀m∈ms,m<n/\l[m]? =some (ZJ l m)/\(ZJ l m).guard=none:=fun m hm=>by
  obtain ⟨⟨h4,h5⟩,h6,_⟩:=hL1 m hm;exact ⟨h4,by rw [Vy,List.getD_eq_getElem?_getD,List.getElem?_eq_getElem h5];rfl,by simpa using h6⟩
 have hvm: ∀m∈ms,ys[m]? =some .junk:=fun m hm=>by
  obtain ⟨q1,q2,q3⟩:=hlat m hm;obtain ⟨z,hy,hk⟩:=h3 m (W6 (ZJ l m)) (by rw [hget _ q1];exact Jy ms l _ _ hm q2);rw [Nat.zero_add] at hy;have e1:(W6 (ZJ l m)).guard=none:=q3;rw [e1] at hk;simp only [W6,Zr,Zt,Xe,XI,aop,ZB] at hk
  have hk2:gt (Zx (l.map (·.dst)) ys (Zs (0+m) { ZJ l m with op:= .move (.tmp 1000000) }) (Zw ((l.map (·.dst)).take n) fr)) 1000000=z:=by simpa [ev] using hk
  rw [ZdM (by rw [ZF,hjl];exact hfl)] at hk2;rw [hy,hk2]
 have hfin:Zx (l.map (·.dst)) ys (List.range n) (Zw ((l.map (·.dst)).take n) fr)=Zx (l.map (·.dst)) ys (List.range n) fr:=Qy hap (by simpa using hn2) hlen
 have:=Zc8 (Q:=fun e a' w'=> ∃fr' H' ι',Q e fr' H'/\Good F H ι w H' ι' w'/\Fr F H' ι' w' fr' a') (F:=F) (fr:=fr) (vals:=ys) (P:=P) (H:=H) (l:=l) (ms:=ms) (K:=fun fr2 L=>YB P (l.map (·.dst)) (l.drop n) fr2 L (Q .normal)) (ops:=List.toArray l) (ι0:=ι) (w0:= { w with drawn:=w.drawn+1 }) rfl hB hlen
  (fun m hm=>⟨(hlat m hm).1,by simpa using (hlat m hm).2.1,(hlat m hm).2.2,hvm m hm⟩)
  (fun m hm t ht j hj hd=>by
   obtain ⟨_,_,h5⟩:=hL1 m hm;have h6:=h5 t ht j (List.mem_range.2 hj);simp only at hd;rw [hd] at h6
   simpa using h6)
  (fun i hi him=>by
   have:=List.all_eq_true.1 hE i (List.mem_range.2 hi);simp only [Bool.or_eq_true,List.all_eq_true,List.contains_iff_mem] at this;rcases this with (h | h) | h
   ·exact absurd h him
   ·exact .inl h
   ·exact .inr h)
  (fun i o hi him ho=>by
   have:=h3 i o (by
    rw [hget i hi,VU]
    ·simpa using ho
    ·exact him)
   rwa [Nat.zero_add] at this)
  (fun fr2 L ι1 a1 w1 k1 g1 f1=>ZN (P:=P) (ops:=List.toArray l) _ _ L _ k1 F ι1 a1 w1 g1.rel f1 fun fr' H' ι' a' w' k g f=>⟨fr',H',ι',k,g0.trans (g1.trans g),f⟩)
  n (Array.replicate l.length false) a { w with drawn:=w.drawn+1 }
  ⟨by simp,fun j oj _ hl=>(by rw [getD_replicate_false] at hl;cases hl),fun t _ ht=>getD_in (by simpa using ht) (getD_replicate_false _ _)⟩
  (by
   rw [List.filter_eq_self.2 (fun i _=>by rw [getD_replicate_false];rfl)]
   simp)
  ⟨ms,[],H,fun _=>rfl,hL3,fun m hm=>hm,fun m hm=>by rw [getD_replicate_false];simp [hm],fun p hp=>(by cases hp),by
    simp only [ptl];rw [hfin]
    exact h2b,ι,⟨g0.rel,hf0.1,hf0.2.1,fun t x ht _=>hf0.2.2 t x ht,fun j d x _ hl=>by rw [getD_replicate_false] at hl;cases hl⟩,Good.refl g0.rel,fun p hp=>(by cases hp)⟩
 simp only [List.size_toArray] at this;simp only [Zv,List.size_toArray];rwa [show n+(l.length-n)=l.length by omega] at this
theorem Zol {P l rem fr H K} (h:K fr H):Zc6 P l 0 rem fr H K:=h
theorem ZgA {P l n rem fr H K} (m:Nat) (y:V) (H':List Obj) (hr:Yr l rem= [m]) (h:Zt P (ZJ l m) fr H (fun x H2=>x=y/\H2=H')) (k:Zc6 P l n (rem.erase m) (ptO fr (ZJ l m).dst y) H' K):Zc6 P l (n+1) rem fr H K:=fun m' hm'=>by
 rw [hr,List.mem_singleton] at hm';subst hm';exact ⟨y,H',h,k⟩
@[go_sem] theorem ZvS {H:List Obj} {n cs cs'} :wkV H n (.tup cs) (.tup cs')=(cs'=cs/\ZR n cs=true):=by simp [wkV,frz,refB]
def eII (p:Int×Int):PV×PV:=(.int .i64 p.1,.int .i64 p.2)
def Zsu (P:Program) (t:TypeId):Option (TypeDesc×Option PV):=match P.underlying t with
 | some (.map kt et)=>(P.underlying kt).map fun d=>(d,zval P et)
 | _=>none
def mix (l:List (Int×Int)) (k:Int):Option Nat:=l.findIdx? fun p=>decide (k=p.1)
def Ka (l:List (Int×Int)) (k:Int):Int:=match mix l k with | some i=>((l[i]?).map (·.2)).getD 0 | none=>0
theorem QN (k:Int): ∀(l:List (Int×Int)) (n:Nat),VA (.int .i64 k) (l.map eII) n=(mix l k).map fun i=>(n+i,.int .i64 (((l[i]?).map (·.2)).getD 0))
 | [],n=>by simp [VA,mix]
 | p::l,n=>by
  have ih:=QN k l (n+1);simp only [List.map_cons,VA,eII,keq]
  by_cases h:k=p.1
  ·simp [h,mix,List.findIdx?_cons]
  ·simp only [h,decide_false,Bool.false_eq_true,if_false];rw [ih];simp only [mix,List.findIdx?_cons,h,decide_false,Bool.false_eq_true,if_false]
   cases l.findIdx? (fun p=>decide (k=p.1)) with
   | none=>rfl
   | some i=>simp;omega
theorem Zd2 {P t d z} (h:Zsu P t=some (d,z)): ∃kt et,P.underlying t=some (.map kt et)/\P.underlying kt=some d/\zval P et=z:=by
 unfold Zsu at h
 split at h
 ·rename_i kt et hu;simp only [Option.map_eq_some_iff,Prod.mk.injEq] at h;obtain ⟨d',h1,rfl,h2⟩:=h;exact ⟨kt,et,hu,h1,h2⟩
 ·cases h
theorem ZbU {P:Program} {H:List Obj} {kt:TypeId} {o:Nat} {l:List (Int×Int)} {k:Int} (hd:P.underlying kt=some (.int .i64)) (hH:oat H o= .map (l.map eII)):ZaV P H kt (.int .i64 k) o=some (l.map eII):=by
 simp [ZaV,hH,mkey,hd,eII,kpair]
theorem ZaA {l:List (Int×Int)} {k:Int} {i:Nat} (h:mix l k=some i): ∃v,l[i]? =some (k,v)/\Ka l k=v:=by
 have h0:=h;unfold mix at h;rw [List.findIdx?_eq_some_iff_getElem] at h;obtain ⟨h1,h2,_⟩:=h
 have h3:k=l[i].1:=by simpa using h2
 refine ⟨l[i].2,by simp [h1];rw [h3],?_⟩;simp [Ka,h0,h1]
section
variable {P : Program} {H : List Obj} {t : TypeId} {o : Nat} {l : List (Int × Int)} {k : Int} {K : V -> List Obj -> Prop}
theorem Zea (hT:Zsu P t=some (.int .i64,some (.int .i64 0))) (hH:oat H o= .map (l.map eII)) (h:K (.p (.int .i64 (Ka l k))) H):mst (ZaI P H t (.mp o) (.p (.int .i64 k)) false) K:=by
 obtain ⟨kt,et,h1,h2,h3⟩:=Zd2 hT;simp only [ZaI,h1,ZbU h2 hH,Option.bind_some,QN,h3]
 cases hm:mix l k with
 | none =>
  have e:Ka l k=0:=by simp [Ka,hm]
  rw [e] at h;simp only [Option.map_none,Option.map_some,mst];exact h
 | some i =>
  have e:Ka l k=((l[i]?).map (·.2)).getD 0:=by simp [Ka,hm]
  rw [e] at h;simp only [Option.map_some,mst];exact h
theorem Zfc {i:Nat} {v:Int} (hH:oat H o= .map (l.map eII)) (hm:mix l k=some i) (h:(∀q,Ka (l.set i (k,v)) q=if q=k then v else Ka l q)->K .junk (H.set o (.map ((l.set i (k,v)).map eII)))):mst (UC H (.mp o) (.p (.int .i64 (i:Nat))) (.p (.int .i64 v))) K:=by
 obtain ⟨u,q1,q2⟩:=ZaA hm;have hil:=(List.getElem?_eq_some_iff.1 q1).1
 have e1:(l.map eII)[i]? =some (eII (k,u)):=by rw [List.getElem?_map,q1];rfl
 simp only [UC,hH,Int.natCast_nonneg,if_true,Int.toNat_natCast,e1,mst]
 have e2:(l.map eII).set i ((eII (k,u)).1,.int .i64 v)=(l.set i (k,v)).map eII:=by rw [List.map_set];rfl
 rw [e2];refine h fun q=> ?_
 have hkeys: ∀j:Nat,((l.set i (k,v))[j]?).map Prod.fst=(l[j]?).map Prod.fst:=fun j=>by
  rw [List.getElem?_set]
  split
  ·rename_i e;subst e;rw [q1];simp [hil]
  ·rfl
 have hmix: ∀q,mix (l.set i (k,v)) q=mix l q:=fun q=>by
  have key: ∀(a b:List (Int×Int)),a.map Prod.fst=b.map Prod.fst->mix a q=mix b q:=fun a b hab=>by
   have e: ∀c:List (Int×Int),mix c q=(c.map Prod.fst).findIdx? fun z=>decide (q=z):=fun c=>by
    rw [List.findIdx?_map];rfl
   rw [e,e,hab]
  refine key _ _ (List.ext_getElem? fun j=> ?_);rw [List.getElem?_map,List.getElem?_map];exact hkeys j
 unfold Ka;rw [hmix]
 by_cases hq:q=k
 ·subst hq;rw [hm,if_pos rfl];simp [hil]
 ·rw [if_neg hq]
  cases hc:mix l q with
  | none=>rfl
  | some j =>
   have hji:i≠j:=fun e=>by
    subst e;obtain ⟨u2,p1,_⟩:=ZaA hc;rw [q1] at p1;simp at p1;exact hq p1.1.symm
   simp only;rw [List.getElem?_set_ne hji]
end
end Go.AM
