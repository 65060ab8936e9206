/- Declarations that the closing texts need, part 8: joined by tools/slim.py. -/
import Derived.Test.YtiigdaohjanidaaGreatDoorP7
import Derived.Lib.LazyBuf
set_option linter.unusedVariables false
set_option linter.unusedSimpArgs false
namespace Go.AM
open Go.RowKit
theorem L8 {P:Program} {id:Nat} {d1 d2:Nat} {x:Operand} {t u e ty1 ty2:TypeId} {p1 p2:String} {af1 af2:Array Edge} {y:Code} {fr:List V} {H:List Obj} {Q:Exit->List V->List Obj->Prop} {cl:Bool} {xs:List PV}
  (hu:P.underlying t=some (.slice e)) (hx:ev fr x= .p (.list cl xs)) (hd:d1<fr.length)
  (k: ∀b,(b=true->xs= [])->AWP P y (pt (pt fr d1 (.p (.list cl xs))) d2 (.p (.bool b))) H Q) :
  AWP P (.seq ((Code.region id (List.toArray [⟨some d1,.move x,ty1,p1,af1,none⟩,⟨some d2,.binOp .eql t (.tmp d1) (.const (.slice none 0 0)) u,ty2,p2,af2,none⟩]) false)) y) fr H Q:=by
 refine Vs fun F ι a w hr hf=>wp_region_list ?_;have hv:=hf.ev x;rw [hx] at hv;have f1:=hf.put (some d1) hv
 have hsz:d1<a.tmps.size:=by have:=hf.1;omega
 have hev:(a.put (some d1) (a.eval x)).eval (.tmp d1)=a.eval x:=by
  simp_all [Act.eval,Act.put]
 have hw1:Region.wanted (⟨some d1,.move x,ty1,p1,af1,none⟩:Oper) (yielded (List.toArray [⟨some d1,.move x,ty1,p1,af1,none⟩,⟨some d2,.binOp .eql t (.tmp d1) (.const (.slice none 0 0)) u,ty2,p2,af2,none⟩]) a.tmps)=true:=rfl;simp only [wpList];rw [if_pos hw1];refine .inl ?_;unfold Oper.wp
 have e1:(execOp a.eval ⟨some d1,.move x,ty1,p1,af1,none⟩).run P w= .ok (.value (a.eval x)) w:=by simp [execOp]
 rw [e1,Oper.upon_value];have hw2: ∀q,Region.wanted (⟨some d2,.binOp .eql t (.tmp d1) (.const (.slice none 0 0)) u,ty2,p2,af2,none⟩:Oper) q=true:=fun _=>rfl;rw [if_pos (hw2 _)];refine .inl ?_
 show Oper.upon P _ (a.put (some d1) (a.eval x)) _ _ ((execOp (a.put (some d1) (a.eval x)).eval _).run P w)
 cases hv with | p _ _ hv =>
 obtain ⟨ad,l,c,ha,hnil⟩: ∃ad l c,a.eval x= .slice ad l c/\(ad=none->xs= []):=by
  generalize a.eval x=v at hv
  cases hv with
  | nils=>simp
  | emp _ ad cap _ _ _=>simp
  | list _ _ b off cap S u=>simp
 have e2:(execOp (a.put (some d1) (a.eval x)).eval ⟨some d2,.binOp .eql t (.tmp d1) (.const (.slice none 0 0)) u,ty2,p2,af2,none⟩).run P w= .ok (.value (.bool ad.isNone)) w:=by
  have e3:(a.put (some d1) (a.eval x)).eval (.const (.slice none 0 0))= .slice none 0 0:=rfl
  simp_all [execOp,eqGuard_at_slice,Go.run_eql_slice_nil]
 rw [e2,Oper.upon_value];have f2:=f1.put (some d2) (x:= .p (.bool ad.isNone)) (v:= .bool ad.isNone) (.p _ _ (.bool _));exact ⟨_,H,ι,k ad.isNone (fun h=>hnil (by simp_all)),Good.refl hr,f2⟩
@[go_sem ↓] theorem Zer {P ds o l m fr H K} :YF P ds (List.append (o::l) m) fr H K=YF P ds (o::List.append l m) fr H K:=rfl
@[go_sem ↓] theorem Zet {P ds m fr H K} :YF P ds (List.append [] m) fr H K=YF P ds m fr H K:=rfl
@[go_sem] theorem Ze3 {α:Type} {x:α} {l m} :List.append (x::l) m=x::List.append l m:=rfl
@[go_sem] theorem Zjh {α:Type} {m:List α} :List.append [] m=m:=rfl
theorem WC {P:Program} {ops:Array Oper} {Q:Exit->Act->World->Prop} {r:List Oper} : ∀(l:List Oper) (fr:List V) (H:List Obj) (K:List V->List Obj->Prop),YF P (ops.toList.map (·.dst)) l fr H K ->
  ∀F ι a w,Rel F H ι w->Fr F H ι w fr a ->
   (∀fr' H' ι' a' w',K fr' H'->Good F H ι w H' ι' w'->Fr F H' ι' w' fr' a'->wpList P ops Q r a' w')->wpList P ops Q (l++r) a w
 | [],fr,H,K,h,F,ι,a,w,hr,hf,hq=>hq fr H ι a w h (Good.refl hr) hf
 | o::l,fr,H,K,h,F,ι,a,w,hr,hf,hq=>by
  have step: ∀ {fr:List V} {a:Act},Fr F H ι w fr a->Zx P o fr H (fun x H'=>YF P (ops.toList.map (·.dst)) l (Wj fr o.dst x) H' K)->o.wp P a w (wpList P ops Q (l++r)) Q:=fun hf h =>
   U3 h hr hf fun x H' ι' v w' hk g q=>WC l _ H' K hk F ι' _ w' g.rel ((g.fr hf).put o.dst q)
    fun fr' H2 ι2 a' w2 k2 g2 f2=>hq fr' H2 ι2 a' w2 k2 (g.trans g2) f2
  simp only [YF] at h;simp only [ZW,wpList]
  split at h
  ·rename_i hg
   have hw:Region.wanted o (yielded ops a.tmps)=true:=by simp [Region.wanted,hg]
   rw [if_pos hw];exact .inl (step hf h)
  ·rename_i j b hg;unfold XH at h
   split at h
   rotate_left
   ·rename_i hc;have hy:=Y4 hf hc
    have hw: ¬(Region.wanted o (yielded ops a.tmps)=true):=by simp [Region.wanted,hg,hy]
    rw [if_neg hw];exact WC l _ H K h F ι _ w hr (hf.put o.dst Wg) hq
   ·exact h.elim
   rename_i c hc;have hy:=Vf hf hc
   by_cases hcb:c=b
   ·have hw:Region.wanted o (yielded ops a.tmps)=true:=by simp [Region.wanted,hg,hy,hcb]
    rw [if_pos hw];exact .inl (step hf (h.1 hcb))
   ·have hw: ¬(Region.wanted o (yielded ops a.tmps)=true):=by simp [Region.wanted,hg,hy,hcb]
    rw [if_neg hw];exact WC l _ H K (h.2 hcb) F ι _ w hr (hf.put o.dst Wg) hq
theorem RV.refB {F H ι w x v} (h:RV F H ι w x v):refB H.length x=true:=by
 have lt: ∀ {o:Nat} {ob:Obj},H[o]? =some ob->o<H.length:=fun h=>(ZS.1 h).1
 have all: ∀(l:List V),(∀(j:Nat) (c:V),l[j]? =some c->AM.refB H.length c=true)->Z9 H.length l=true:=fun l=>by
  induction l with
  | nil=>intro _;rfl
  | cons x l ih=>intro h;simp only [Z9,Zy];exact ⟨h 0 x rfl,ih fun j c hj=>h (j+1) c (by grind)⟩
 induction h with
 | p=>rfl
 | agg cs a hs _ ih=>exact all cs ih
 | fn f cs ds a e hs ht _ _ ih1 ih2=>simp only [AM.refB,Zy];grind
 | tup cs a hs _ ih=>exact all cs ih
 | ptr o off b cs h hH=>simp [AM.refB,lt hH]
 | ep o i j tot b S xs h hH ht=>simp [AM.refB,lt hH]
 | slNil o S a h hH=>simp [AM.refB,lt hH]
 | sl o off len tot b S cap t xs c h hH=>simp [AM.refB,lt hH]
 | lp=>rfl
 | mp o b es h hH=>simp [AM.refB,lt hH]
 | mpD o v h=>simp [AM.refB,lt h]
 | bp o b T E r bs h hH=>simp [AM.refB,lt hH]
 | bpD o v h=>simp [AM.refB,lt h]
 | junk=>rfl
 | ptrD o off v h=>simp [AM.refB,lt h]
 | epD o i j tot v h=>simp [AM.refB,lt h]
 | slD o off len tot v h=>simp [AM.refB,lt h]
 | epS o i j tot v S xs h hne=>simp [AM.refB,lt h]
 | slS o off len tot v S xs h hne=>simp [AM.refB,lt h]
 | slC o tot b cap cs h hH hl hm=>simp [AM.refB,lt hH]
theorem Rel.refH {F H ι w} (h:Rel F H ι w):refH H.length H=true:=by
 rw [AM.refH,Zt];intro ob hm;obtain ⟨o,ho⟩:=Xd.1 hm
 cases ob with
 | cells cs =>
  obtain ⟨b,c,t,_,_,_,h4⟩:=h.cel o cs ho
  have: ∀(l:List V),(∀x∈l,refB H.length x=true)->Z9 H.length l=true:=fun l=>by
   induction l with
   | nil=>intro _;rfl
   | cons x l ih=>simp_all [Z9]
  exact this cs fun x hx=>by
   obtain ⟨j,hj⟩:=Xd.1 hx;exact (h4 j x hj).refB
 | elems=>rfl
 | map=>rfl
 | bld T E r bs=>simpa using (ZS.1 (h.bldr o T E r bs ho).2.1).1
 | dead=>rfl
def J5 (o:Oper):Oper:= { o with op:= .move (.tmp 1000000) }
def QE : Nat->List Oper->List Oper
 | _,[]=> []
 | 0,o::l=>J5 o::l
 | m+1,o::l=>o::QE m l
theorem KD : ∀(m:Nat) (l:List Oper) (i:Nat),(QE m l)[i]? =if i=m then (l[i]?).map J5 else l[i]?
 | m,[],i=>by grind [QE]
 | 0,o::l,0=>by simp [QE]
 | 0,o::l,i+1=>by simp [QE]
 | m+1,o::l,0=>by simp [QE]
 | m+1,o::l,i+1=>by simp [QE,KD m l i]
theorem Na : ∀(m:Nat) (l:List Oper),(QE m l).map (·.dst)=l.map (·.dst)
 | m,[]=>by grind [QE]
 | 0,o::l=>by rfl
 | m+1,o::l=>by simp [QE,Na m l]
theorem Nb : ∀(m:Nat) (l:List Oper),(QE m l).length=l.length
 | m,[]=>by grind [QE]
 | 0,o::l=>by simp [QE]
 | m+1,o::l=>by simp [QE,Nb m l]
theorem OV : ∀ {fr:List V} {t:Nat},fr.length<=t->gt fr t= .junk
 | [],_,_=>rfl
 | _::_,0,h=>by simp at h
 | _::l,t+1,h=>by simp only [gt];exact OV (by simpa using h)
@[go_sem] theorem Ze9 {o:Oper} {l} :QE 0 (o::l)=J5 o::l:=rfl
@[go_sem] theorem Ze8 {o:Oper} {l m} :QE (m+1) (o::l)=o::QE m l:=rfl
@[go_sem] theorem Zjw {d op t ps af g} :J5 ⟨d,op,t,ps,af,g⟩=⟨d,.move (.tmp 1000000),t,ps,af,g⟩:=rfl
theorem sI {fr:List V} {d:Option Nat} {x:V} :(Wj fr d x).length=fr.length:=by cases d<;>simp [Wj,Ur]
theorem sH {fr:List V} {d:Option Nat} {v x:V} {t:Nat} (h:(Wj fr d v)[t]? =some x):(d=some t/\x=v/\t<fr.length)\/(d≠some t/\fr[t]? =some x):=by
 cases d with
 | none=>exact .inr ⟨Zb,h⟩
 | some d =>
  simp only [Wj,Ur] at h
  grind
theorem Ba {ds:List (Option Nat)} {vals:List V} {n:Nat} (hap:Jg ds n=true) (hn:n<=ds.length) (hv:vals.length=n) {R:List Nat} {ls:List Nat} (hls: ∀j∈ls,j<n) {fr:List V} (hR: ∀t∈R,∀j,j<n->ds[j]? =some (some t)->j∈ls) :
  V1 R (hset ds vals ls (Xm (ds.take n) fr)) (hset ds vals (List.range n) (Xm (ds.take n) fr)):=fun t ht=>by
 apply Hn
 by_cases hex: ∃j,j<n/\ds[j]? =some (some t)
 ·grind [B2,YN]
 grind [Kr]
def V8 : List Nat->List Oper->List Oper
 | [],l=>l
 | m::ms,l=>V8 ms (QE m l)
theorem Fx : ∀(ms:List Nat) (l:List Oper),(V8 ms l).map (·.dst)=l.map (·.dst)
 | [],_=>rfl
 | m::ms,l=>by rw [V8,Fx ms,Na]
theorem Fy : ∀(ms:List Nat) (l:List Oper),(V8 ms l).length=l.length
 | [],_=>rfl
 | m::ms,l=>by rw [V8,Fy ms,Nb]
theorem Cq : ∀(ms:List Nat) (l:List Oper) (i:Nat),i ∉ ms->(V8 ms l)[i]? =l[i]?
 | [],_,_,_=>rfl
 | m::ms,l,i,h=>by
  simp at h;rw [V8,Cq ms _ i h.2,KD,if_neg h.1]
theorem En : ∀(ms:List Nat) (l:List Oper) (i:Nat) (o:Oper),i∈ms->l[i]? =some o->(V8 ms l)[i]? =some (J5 o)
 | [],_,_,_,h,_=>by cases h
 | m::ms,l,i,o,h,ho=>by
  rw [V8]
  by_cases hi:i∈ms
  ·by_cases e:i=m
   ·subst e;have:=En ms (QE i l) i (J5 o) hi (by rw [KD,if_pos rfl,ho];rfl);rw [this];rfl
   ·exact En ms (QE m l) i o hi (by rw [KD,if_neg e];exact ho)
  ·have e:i=m:=by
    grind
   subst e;rw [Cq ms _ _ hi,KD,if_pos rfl,ho];rfl
def J2 (l:List Oper) (n:Nat) (ms:List Nat):Bool :=
 (ms.all fun m=>decide (m<n)&&match l[m]? with
  | some o=>o.guard.isNone&&(WY o.op).all fun t=>(List.range n).all fun j=>match (l.map (·.dst))[j]? with
    | some (some d)=>decide (d≠t)||(ZZ m o).contains j
    | _=>true
  | none=>false)&&((List.range (ms.length-1)).all fun s=>match ms[s]?,ms[s+1]? with
   | some a,some b=>match l[b]? with | some o=>(ZZ b o).contains a | none=>false
   | _,_=>false)&&(List.range ms.length).all fun s=>(List.range ms.length).all fun t=>decide (s=t)||decide (ms[s]? ≠ms[t]?)
def Z2 : List Oper->Nat->Oper
 | [],_=>default
 | o::_,0=>o
 | _::l,n+1=>Z2 l n
theorem B6 : ∀(l:List Oper) (n:Nat),Z2 l n=l.getD n default
 | [],n=>by simp [Z2]
 | o::l,0=>rfl
 | o::l,n+1=>by simp [Z2,B6 l n]
@[go_sem] theorem Ze5 {o:Oper} {l} :Z2 (o::l) 0=o:=rfl
@[go_sem] theorem Ze4 {o:Oper} {l n} :Z2 (o::l) (n+1)=Z2 l n:=rfl
@[go_sem] theorem Zjx {l:List Oper} :V8 [] l=l:=rfl
@[go_sem] theorem Zfa {m ms} {l:List Oper} :V8 (m::ms) l=V8 ms (QE m l):=rfl
theorem Ac {P:Program} {H:List Obj} {f azs} {a b:PV} {B:V->Prop} {t} (h:ACalls P f azs [] fun x H'=>x= .tup [.p a,.p b]/\H'= []) (k:B (.tup [.p a,.p b])) (ha:Z9 0 azs=true:=by rfl) :
  bT (fun y=>ACalls P f azs H (ZB (ZB (fun x H'=>x=y/\H'=H) ⟨⟩) ⟨⟩)) (ZB B t) :=
 ⟨.tup [.p a,.p b],(h.behind ha H).mono fun x H' hq=>by
  obtain ⟨y,H1,⟨rfl,rfl⟩,rfl,rfl⟩:=hq
  simp [shV,shVs,ZB],k⟩
@[go_sem] theorem Zla {H:List Obj} {n cs cs'} :GR H n (.tup cs) (.tup cs')=(cs'=cs/\Z9 n cs=true):=by simp [GR,qK,refB]
def eII (p:Int×Int):PV×PV:=(.int .i64 p.1,.int .i64 p.2)
def iT (P:Program) (t:TypeId):Option (TypeDesc×Option PV):=match P.underlying t with
 | some (.map kt et)=>(P.underlying kt).map fun d=>(d,zval P et)
 | _=>none
def HD (l:List (Int×Int)) (k:Int):Option Nat:=l.findIdx? fun p=>decide (k=p.1)
def Kz (l:List (Int×Int)) (k:Int):Int:=match HD l k with | some i=>((l[i]?).map (·.2)).getD 0 | none=>0
theorem De (k:Int): ∀(l:List (Int×Int)) (n:Nat),Qh (.int .i64 k) (l.map eII) n=(HD l k).map fun i=>(n+i,.int .i64 (((l[i]?).map (·.2)).getD 0))
 | [],n=>by rfl
 | p::l,n=>by
  have ih:=De k l (n+1);simp only [Zs,Qh,eII,keq]
  by_cases h:k=p.1
  ·simp [h,HD,List.findIdx?_cons]
  ·simp only [h,JG,Yi,YA];rw [ih];simp only [HD,List.findIdx?_cons,h,JG,Yi,YA]
   cases l.findIdx? (fun p=>decide (k=p.1)) with
   | none=>rfl
   | some i=>simp;omega
theorem M6 {P t d z} (h:iT P t=some (d,z)): ∃kt et,P.underlying t=some (.map kt et)/\P.underlying kt=some d/\zval P et=z:=by
 unfold iT at h
 split at h
 ·rename_i kt et hu;simp only [ZT,Uw] at h
  grind
 ·cases h
theorem Hw {P:Program} {H:List Obj} {kt:TypeId} {o:Nat} {l:List (Int×Int)} {k:Int} (hd:P.underlying kt=some (.int .i64)) (hH:oat H o= .map (l.map eII)):Cp P H kt (.int .i64 k) o=some (l.map eII):=by
 simp [Cp,hH,mkey,hd,eII,kpair]
theorem Fu {l:List (Int×Int)} {k:Int} {i:Nat} (h:HD l k=some i): ∃v,l[i]? =some (k,v)/\Kz l k=v:=by
 grind [HD,Qx,Kz]
section
variable {P : Program} {H : List Obj} {t : TypeId} {o : Nat} {l : List (Int × Int)} {k : Int} {K : V -> List Obj -> Prop}
theorem M4 (hT:iT P t=some (.int .i64,some (.int .i64 0))) (hH:oat H o= .map (l.map eII)) (h:K (.p (.int .i64 (Kz l k))) H):A0 (BC P H t (.mp o) (.p (.int .i64 k)) false) K:=by
 obtain ⟨kt,et,h1,h2,h3⟩:=M6 hT;simp only [BC,h1,Hw h2 hH,Ap,De,h3]
 grind [Kz,A0]
theorem O4 {i:Nat} {v:Int} (hH:oat H o= .map (l.map eII)) (hm:HD l k=some i) (h:(∀q,Kz (l.set i (k,v)) q=if q=k then v else Kz l q)->K .junk (H.set o (.map ((l.set i (k,v)).map eII)))):A0 (K5 H (.mp o) (.p (.int .i64 (i:Nat))) (.p (.int .i64 v))) K:=by
 obtain ⟨u,q1,q2⟩:=Fu hm;have hil:=(ZS.1 q1).1
 have e1:(l.map eII)[i]? =some (eII (k,u)):=by grind
 simp only [K5,hH,Int.natCast_nonneg,if_true,XO,e1,A0]
 have e2:(l.map eII).set i ((eII (k,u)).1,.int .i64 v)=(l.set i (k,v)).map eII:=by rw [Vc];rfl
 rw [e2];refine h fun q=> ?_
 have hkeys: ∀j:Nat,((l.set i (k,v))[j]?).map Prod.fst=(l[j]?).map Prod.fst:=fun j=>by
  grind
 have hmix: ∀q,HD (l.set i (k,v)) q=HD l q:=fun q=>by
  have key: ∀(a b:List (Int×Int)),a.map Prod.fst=b.map Prod.fst->HD a q=HD b q:=fun a b hab=>by
   have e: ∀c:List (Int×Int),HD c q=(c.map Prod.fst).findIdx? fun z=>decide (q=z):=fun c=>by
    rw [List.findIdx?_map];rfl
   grind
  refine key _ _ (JN fun j=> ?_)
  grind
 unfold Kz;rw [hmix]
 by_cases hq:q=k
 ·grind
 ·rw [if_neg hq]
  grind [Fu]
end
end Go.AM
